/- A part of a proof over the abstract machine. No conditions. -/
import Derived.Test.YtkpmdlcmbemgdaaGreatFQL2
import Derived.Test.YtkpmdlcmbemgdaaGreatFQR1
import Derived.Test.YtkpmdlcmbemgdaaGreatFQR2
import Derived.Test.YtkpmdlcmbemgdaaGreatFQR3
import Derived.Test.YtkpmdlcmbemgdaaGreatFQR4
set_option linter.all false
namespace Go.Proofs.YtkpmdlcmbemgdaaGreat
open Go Go.Ab Go.Fa
set_option maxRecDepth 1000000
set_option maxHeartbeats 0
def p111:Nat→Nat:=fun q=>match q with | 0=>49 | _=>88
theorem h111 (x:Nat→Int):(v111 x).next = 233∧scW 233 (v111 x).l = true:=⟨rfl,by kernel_rfl⟩
theorem q111:Qt 1 1 1 v111_0 v111_1 v111_2 v111 233 (fun _=>0) (fun _=>0) p111 where
 four:=⟨ble_le rfl,ble_le rfl,ble_le rfl,ble_le rfl⟩
 opened:=open_of rO111 (by kernel_rfl)
 go0:=go_of (V:=v111_0) rR111 rU111_0 (ble_le rfl) (by kernel_rfl) (ble_le rfl) (by kernel_rfl)
 go1:=go_of (V:=v111_1) rR111 rU111_1 (ble_le rfl) (by kernel_rfl) (ble_le rfl) (by kernel_rfl)
 go2:=go_std (V:=v111_2) (V3:=v111_3) (xs:=x111) (x0:=fun q=>match q with | 0=>.ofNat 0 | _=>.ofNat 0) (ids:=[49,88]) rR111 rU111_2 (ble_le rfl) (by kernel_rfl) (ble_le rfl) (by kernel_rfl) rfl (by kernel_rfl) (by kernel_rfl)
 go:=go_step (xs:=x111) (L:=v111_3.l) rR111 rU111 (ble_le rfl) (by kernel_rfl) (ble_le rfl) (ble_le rfl) (fun _=>by kernel_rfl) (fun _=>by kernel_rfl) (fun _=>rfl)
 rlt:=fun q hq=>match q,hq with
  | 0,_=>ble_le rfl
  | 1,_=>ble_le rfl
  | q + 2,h=>absurd h (by omega)
 settled:=ak h111 rS111 fun _ _ _=>yes_ρ
 events:=ak h111 rE111 fun _ _ _=>nil_ρ
 leader:=fun q hq=>match q,hq with
  | 0,_=>ak h111 rL111_0 fun _ _ _=>two_ρ
  | 1,_=>ak h111 rL111_1 fun _ _ _=>two_ρ
  | q + 2,h=>absurd h (by omega)
 replica:=fun q hq=>match q,hq with
  | 0,_=>ak h111 rG111_0 fun _ _ h=>ptr_ρ rfl h
  | 1,_=>ak h111 rG111_1 fun _ _ h=>ptr_ρ rfl h
  | q + 2,h=>absurd h (by omega)
 done:=fun q hq=>match q,hq with
  | 0,_=>ak h111 rD111_0 fun _ _ _=>int_ρ
  | 1,_=>ak h111 rD111_1 fun _ _ _=>int_ρ
  | q + 2,h=>absurd h (by omega)
 ballot:=fun q hq=>match q,hq with
  | 0,_=>ak h111 rbB111_0 fun _ _ _=>int_ρ
  | 1,_=>ak h111 rbB111_1 fun _ _ _=>int_ρ
  | q + 2,h=>absurd h (by omega)
def p112:Nat→Nat:=fun q=>match q with | 0=>49 | _=>88
theorem h112 (x:Nat→Int):(v112 x).next = 253∧scW 253 (v112 x).l = true:=⟨rfl,by kernel_rfl⟩
theorem q112:Qt 1 1 2 v112_0 v112_1 v112_2 v112 253 (fun _=>0) (fun _=>0) p112 where
 four:=⟨ble_le rfl,ble_le rfl,ble_le rfl,ble_le rfl⟩
 opened:=open_of rO112 (by kernel_rfl)
 go0:=go_of (V:=v112_0) rR112 rU112_0 (ble_le rfl) (by kernel_rfl) (ble_le rfl) (by kernel_rfl)
 go1:=go_of (V:=v112_1) rR112 rU112_1 (ble_le rfl) (by kernel_rfl) (ble_le rfl) (by kernel_rfl)
 go2:=go_std (V:=v112_2) (V3:=v112_3) (xs:=x112) (x0:=fun q=>match q with | 0=>.ofNat 0 | _=>.ofNat 0) (ids:=[49,88]) rR112 rU112_2 (ble_le rfl) (by kernel_rfl) (ble_le rfl) (by kernel_rfl) rfl (by kernel_rfl) (by kernel_rfl)
 go:=go_step (xs:=x112) (L:=v112_3.l) rR112 rU112 (ble_le rfl) (by kernel_rfl) (ble_le rfl) (ble_le rfl) (fun _=>by kernel_rfl) (fun _=>by kernel_rfl) (fun _=>rfl)
 rlt:=fun q hq=>match q,hq with
  | 0,_=>ble_le rfl
  | 1,_=>ble_le rfl
  | q + 2,h=>absurd h (by omega)
 settled:=ak h112 rS112 fun _ _ _=>yes_ρ
 events:=ak h112 rE112 fun _ _ _=>nil_ρ
 leader:=fun q hq=>match q,hq with
  | 0,_=>ak h112 rL112_0 fun _ _ _=>two_ρ
  | 1,_=>ak h112 rL112_1 fun _ _ _=>two_ρ
  | q + 2,h=>absurd h (by omega)
 replica:=fun q hq=>match q,hq with
  | 0,_=>ak h112 rG112_0 fun _ _ h=>ptr_ρ rfl h
  | 1,_=>ak h112 rG112_1 fun _ _ h=>ptr_ρ rfl h
  | q + 2,h=>absurd h (by omega)
 done:=fun q hq=>match q,hq with
  | 0,_=>ak h112 rD112_0 fun _ _ _=>int_ρ
  | 1,_=>ak h112 rD112_1 fun _ _ _=>int_ρ
  | q + 2,h=>absurd h (by omega)
 ballot:=fun q hq=>match q,hq with
  | 0,_=>ak h112 rbB112_0 fun _ _ _=>int_ρ
  | 1,_=>ak h112 rbB112_1 fun _ _ _=>int_ρ
  | q + 2,h=>absurd h (by omega)
def p113:Nat→Nat:=fun q=>match q with | 0=>49 | _=>88
theorem h113 (x:Nat→Int):(v113 x).next = 273∧scW 273 (v113 x).l = true:=⟨rfl,by kernel_rfl⟩
theorem q113:Qt 1 1 3 v113_0 v113_1 v113_2 v113 273 (fun _=>0) (fun _=>0) p113 where
 four:=⟨ble_le rfl,ble_le rfl,ble_le rfl,ble_le rfl⟩
 opened:=open_of rO113 (by kernel_rfl)
 go0:=go_of (V:=v113_0) rR113 rU113_0 (ble_le rfl) (by kernel_rfl) (ble_le rfl) (by kernel_rfl)
 go1:=go_of (V:=v113_1) rR113 rU113_1 (ble_le rfl) (by kernel_rfl) (ble_le rfl) (by kernel_rfl)
 go2:=go_std (V:=v113_2) (V3:=v113_3) (xs:=x113) (x0:=fun q=>match q with | 0=>.ofNat 0 | _=>.ofNat 0) (ids:=[49,88]) rR113 rU113_2 (ble_le rfl) (by kernel_rfl) (ble_le rfl) (by kernel_rfl) rfl (by kernel_rfl) (by kernel_rfl)
 go:=go_step (xs:=x113) (L:=v113_3.l) rR113 rU113 (ble_le rfl) (by kernel_rfl) (ble_le rfl) (ble_le rfl) (fun _=>by kernel_rfl) (fun _=>by kernel_rfl) (fun _=>rfl)
 rlt:=fun q hq=>match q,hq with
  | 0,_=>ble_le rfl
  | 1,_=>ble_le rfl
  | q + 2,h=>absurd h (by omega)
 settled:=ak h113 rS113 fun _ _ _=>yes_ρ
 events:=ak h113 rE113 fun _ _ _=>nil_ρ
 leader:=fun q hq=>match q,hq with
  | 0,_=>ak h113 rL113_0 fun _ _ _=>two_ρ
  | 1,_=>ak h113 rL113_1 fun _ _ _=>two_ρ
  | q + 2,h=>absurd h (by omega)
 replica:=fun q hq=>match q,hq with
  | 0,_=>ak h113 rG113_0 fun _ _ h=>ptr_ρ rfl h
  | 1,_=>ak h113 rG113_1 fun _ _ h=>ptr_ρ rfl h
  | q + 2,h=>absurd h (by omega)
 done:=fun q hq=>match q,hq with
  | 0,_=>ak h113 rD113_0 fun _ _ _=>int_ρ
  | 1,_=>ak h113 rD113_1 fun _ _ _=>int_ρ
  | q + 2,h=>absurd h (by omega)
 ballot:=fun q hq=>match q,hq with
  | 0,_=>ak h113 rbB113_0 fun _ _ _=>int_ρ
  | 1,_=>ak h113 rbB113_1 fun _ _ _=>int_ρ
  | q + 2,h=>absurd h (by omega)
def p114:Nat→Nat:=fun q=>match q with | 0=>49 | _=>88
theorem h114 (x:Nat→Int):(v114 x).next = 293∧scW 293 (v114 x).l = true:=⟨rfl,by kernel_rfl⟩
theorem q114:Qt 1 1 4 v114_0 v114_1 v114_2 v114 293 (fun _=>0) (fun _=>0) p114 where
 four:=⟨ble_le rfl,ble_le rfl,ble_le rfl,ble_le rfl⟩
 opened:=open_of rO114 (by kernel_rfl)
 go0:=go_of (V:=v114_0) rR114 rU114_0 (ble_le rfl) (by kernel_rfl) (ble_le rfl) (by kernel_rfl)
 go1:=go_of (V:=v114_1) rR114 rU114_1 (ble_le rfl) (by kernel_rfl) (ble_le rfl) (by kernel_rfl)
 go2:=go_std (V:=v114_2) (V3:=v114_3) (xs:=x114) (x0:=fun q=>match q with | 0=>.ofNat 0 | _=>.ofNat 0) (ids:=[49,88]) rR114 rU114_2 (ble_le rfl) (by kernel_rfl) (ble_le rfl) (by kernel_rfl) rfl (by kernel_rfl) (by kernel_rfl)
 go:=go_step (xs:=x114) (L:=v114_3.l) rR114 rU114 (ble_le rfl) (by kernel_rfl) (ble_le rfl) (ble_le rfl) (fun _=>by kernel_rfl) (fun _=>by kernel_rfl) (fun _=>rfl)
 rlt:=fun q hq=>match q,hq with
  | 0,_=>ble_le rfl
  | 1,_=>ble_le rfl
  | q + 2,h=>absurd h (by omega)
 settled:=ak h114 rS114 fun _ _ _=>yes_ρ
 events:=ak h114 rE114 fun _ _ _=>nil_ρ
 leader:=fun q hq=>match q,hq with
  | 0,_=>ak h114 rL114_0 fun _ _ _=>two_ρ
  | 1,_=>ak h114 rL114_1 fun _ _ _=>two_ρ
  | q + 2,h=>absurd h (by omega)
 replica:=fun q hq=>match q,hq with
  | 0,_=>ak h114 rG114_0 fun _ _ h=>ptr_ρ rfl h
  | 1,_=>ak h114 rG114_1 fun _ _ h=>ptr_ρ rfl h
  | q + 2,h=>absurd h (by omega)
 done:=fun q hq=>match q,hq with
  | 0,_=>ak h114 rD114_0 fun _ _ _=>int_ρ
  | 1,_=>ak h114 rD114_1 fun _ _ _=>int_ρ
  | q + 2,h=>absurd h (by omega)
 ballot:=fun q hq=>match q,hq with
  | 0,_=>ak h114 rbB114_0 fun _ _ _=>int_ρ
  | 1,_=>ak h114 rbB114_1 fun _ _ _=>int_ρ
  | q + 2,h=>absurd h (by omega)
def p131:Nat→Nat:=fun q=>match q with | 0=>103 | _=>182
theorem h131 (x:Nat→Int):(v131 x).next = 824∧scW 824 (v131 x).l = true:=⟨rfl,by kernel_rfl⟩
theorem q131:Qt 1 3 1 v131_0 v131_1 v131_2 v131 824 (fun _=>2) (fun _=>2) p131 where
 four:=⟨ble_le rfl,ble_le rfl,ble_le rfl,ble_le rfl⟩
 opened:=open_of rO131 (by kernel_rfl)
 go0:=go_of (V:=v131_0) rR131 rU131_0 (ble_le rfl) (by kernel_rfl) (ble_le rfl) (by kernel_rfl)
 go1:=go_of (V:=v131_1) rR131 rU131_1 (ble_le rfl) (by kernel_rfl) (ble_le rfl) (by kernel_rfl)
 go2:=go_std (V:=v131_2) (V3:=v131_3) (xs:=x131) (x0:=fun q=>match q with | 0=>.ofNat 0 | _=>.ofNat 0) (ids:=[103,182]) rR131 rU131_2 (ble_le rfl) (by kernel_rfl) (ble_le rfl) (by kernel_rfl) rfl (by kernel_rfl) (by kernel_rfl)
 go:=go_step (xs:=x131) (L:=v131_3.l) rR131 rU131 (ble_le rfl) (by kernel_rfl) (ble_le rfl) (ble_le rfl) (fun _=>by kernel_rfl) (fun _=>by kernel_rfl) (fun _=>rfl)
 rlt:=fun q hq=>match q,hq with
  | 0,_=>ble_le rfl
  | 1,_=>ble_le rfl
  | q + 2,h=>absurd h (by omega)
 settled:=ak h131 rS131 fun _ _ _=>yes_ρ
 events:=ak h131 rE131 fun _ _ _=>nil_ρ
 leader:=fun q hq=>match q,hq with
  | 0,_=>ak h131 rL131_0 fun _ _ _=>two_ρ
  | 1,_=>ak h131 rL131_1 fun _ _ _=>two_ρ
  | q + 2,h=>absurd h (by omega)
 replica:=fun q hq=>match q,hq with
  | 0,_=>ak h131 rG131_0 fun _ _ h=>ptr_ρ rfl h
  | 1,_=>ak h131 rG131_1 fun _ _ h=>ptr_ρ rfl h
  | q + 2,h=>absurd h (by omega)
 done:=fun q hq=>match q,hq with
  | 0,_=>ak h131 rD131_0 fun _ _ _=>int_ρ
  | 1,_=>ak h131 rD131_1 fun _ _ _=>int_ρ
  | q + 2,h=>absurd h (by omega)
 ballot:=fun q hq=>match q,hq with
  | 0,_=>ak h131 rbB131_0 fun _ _ _=>int_ρ
  | 1,_=>ak h131 rbB131_1 fun _ _ _=>int_ρ
  | q + 2,h=>absurd h (by omega)
def p132:Nat→Nat:=fun q=>match q with | 0=>103 | _=>182
theorem h132 (x:Nat→Int):(v132 x).next = 844∧scW 844 (v132 x).l = true:=⟨rfl,by kernel_rfl⟩
theorem q132:Qt 1 3 2 v132_0 v132_1 v132_2 v132 844 (fun _=>2) (fun _=>2) p132 where
 four:=⟨ble_le rfl,ble_le rfl,ble_le rfl,ble_le rfl⟩
 opened:=open_of rO132 (by kernel_rfl)
 go0:=go_of (V:=v132_0) rR132 rU132_0 (ble_le rfl) (by kernel_rfl) (ble_le rfl) (by kernel_rfl)
 go1:=go_of (V:=v132_1) rR132 rU132_1 (ble_le rfl) (by kernel_rfl) (ble_le rfl) (by kernel_rfl)
 go2:=go_std (V:=v132_2) (V3:=v132_3) (xs:=x132) (x0:=fun q=>match q with | 0=>.ofNat 0 | _=>.ofNat 0) (ids:=[103,182]) rR132 rU132_2 (ble_le rfl) (by kernel_rfl) (ble_le rfl) (by kernel_rfl) rfl (by kernel_rfl) (by kernel_rfl)
 go:=go_step (xs:=x132) (L:=v132_3.l) rR132 rU132 (ble_le rfl) (by kernel_rfl) (ble_le rfl) (ble_le rfl) (fun _=>by kernel_rfl) (fun _=>by kernel_rfl) (fun _=>rfl)
 rlt:=fun q hq=>match q,hq with
  | 0,_=>ble_le rfl
  | 1,_=>ble_le rfl
  | q + 2,h=>absurd h (by omega)
 settled:=ak h132 rS132 fun _ _ _=>yes_ρ
 events:=ak h132 rE132 fun _ _ _=>nil_ρ
 leader:=fun q hq=>match q,hq with
  | 0,_=>ak h132 rL132_0 fun _ _ _=>two_ρ
  | 1,_=>ak h132 rL132_1 fun _ _ _=>two_ρ
  | q + 2,h=>absurd h (by omega)
 replica:=fun q hq=>match q,hq with
  | 0,_=>ak h132 rG132_0 fun _ _ h=>ptr_ρ rfl h
  | 1,_=>ak h132 rG132_1 fun _ _ h=>ptr_ρ rfl h
  | q + 2,h=>absurd h (by omega)
 done:=fun q hq=>match q,hq with
  | 0,_=>ak h132 rD132_0 fun _ _ _=>int_ρ
  | 1,_=>ak h132 rD132_1 fun _ _ _=>int_ρ
  | q + 2,h=>absurd h (by omega)
 ballot:=fun q hq=>match q,hq with
  | 0,_=>ak h132 rbB132_0 fun _ _ _=>int_ρ
  | 1,_=>ak h132 rbB132_1 fun _ _ _=>int_ρ
  | q + 2,h=>absurd h (by omega)
def p133:Nat→Nat:=fun q=>match q with | 0=>103 | _=>182
theorem h133 (x:Nat→Int):(v133 x).next = 864∧scW 864 (v133 x).l = true:=⟨rfl,by kernel_rfl⟩
theorem q133:Qt 1 3 3 v133_0 v133_1 v133_2 v133 864 (fun _=>2) (fun _=>2) p133 where
 four:=⟨ble_le rfl,ble_le rfl,ble_le rfl,ble_le rfl⟩
 opened:=open_of rO133 (by kernel_rfl)
 go0:=go_of (V:=v133_0) rR133 rU133_0 (ble_le rfl) (by kernel_rfl) (ble_le rfl) (by kernel_rfl)
 go1:=go_of (V:=v133_1) rR133 rU133_1 (ble_le rfl) (by kernel_rfl) (ble_le rfl) (by kernel_rfl)
 go2:=go_std (V:=v133_2) (V3:=v133_3) (xs:=x133) (x0:=fun q=>match q with | 0=>.ofNat 0 | _=>.ofNat 0) (ids:=[103,182]) rR133 rU133_2 (ble_le rfl) (by kernel_rfl) (ble_le rfl) (by kernel_rfl) rfl (by kernel_rfl) (by kernel_rfl)
 go:=go_step (xs:=x133) (L:=v133_3.l) rR133 rU133 (ble_le rfl) (by kernel_rfl) (ble_le rfl) (ble_le rfl) (fun _=>by kernel_rfl) (fun _=>by kernel_rfl) (fun _=>rfl)
 rlt:=fun q hq=>match q,hq with
  | 0,_=>ble_le rfl
  | 1,_=>ble_le rfl
  | q + 2,h=>absurd h (by omega)
 settled:=ak h133 rS133 fun _ _ _=>yes_ρ
 events:=ak h133 rE133 fun _ _ _=>nil_ρ
 leader:=fun q hq=>match q,hq with
  | 0,_=>ak h133 rL133_0 fun _ _ _=>two_ρ
  | 1,_=>ak h133 rL133_1 fun _ _ _=>two_ρ
  | q + 2,h=>absurd h (by omega)
 replica:=fun q hq=>match q,hq with
  | 0,_=>ak h133 rG133_0 fun _ _ h=>ptr_ρ rfl h
  | 1,_=>ak h133 rG133_1 fun _ _ h=>ptr_ρ rfl h
  | q + 2,h=>absurd h (by omega)
 done:=fun q hq=>match q,hq with
  | 0,_=>ak h133 rD133_0 fun _ _ _=>int_ρ
  | 1,_=>ak h133 rD133_1 fun _ _ _=>int_ρ
  | q + 2,h=>absurd h (by omega)
 ballot:=fun q hq=>match q,hq with
  | 0,_=>ak h133 rbB133_0 fun _ _ _=>int_ρ
  | 1,_=>ak h133 rbB133_1 fun _ _ _=>int_ρ
  | q + 2,h=>absurd h (by omega)
def p134:Nat→Nat:=fun q=>match q with | 0=>103 | _=>182
theorem h134 (x:Nat→Int):(v134 x).next = 884∧scW 884 (v134 x).l = true:=⟨rfl,by kernel_rfl⟩
theorem q134:Qt 1 3 4 v134_0 v134_1 v134_2 v134 884 (fun _=>2) (fun _=>2) p134 where
 four:=⟨ble_le rfl,ble_le rfl,ble_le rfl,ble_le rfl⟩
 opened:=open_of rO134 (by kernel_rfl)
 go0:=go_of (V:=v134_0) rR134 rU134_0 (ble_le rfl) (by kernel_rfl) (ble_le rfl) (by kernel_rfl)
 go1:=go_of (V:=v134_1) rR134 rU134_1 (ble_le rfl) (by kernel_rfl) (ble_le rfl) (by kernel_rfl)
 go2:=go_std (V:=v134_2) (V3:=v134_3) (xs:=x134) (x0:=fun q=>match q with | 0=>.ofNat 0 | _=>.ofNat 0) (ids:=[103,182]) rR134 rU134_2 (ble_le rfl) (by kernel_rfl) (ble_le rfl) (by kernel_rfl) rfl (by kernel_rfl) (by kernel_rfl)
 go:=go_step (xs:=x134) (L:=v134_3.l) rR134 rU134 (ble_le rfl) (by kernel_rfl) (ble_le rfl) (ble_le rfl) (fun _=>by kernel_rfl) (fun _=>by kernel_rfl) (fun _=>rfl)
 rlt:=fun q hq=>match q,hq with
  | 0,_=>ble_le rfl
  | 1,_=>ble_le rfl
  | q + 2,h=>absurd h (by omega)
 settled:=ak h134 rS134 fun _ _ _=>yes_ρ
 events:=ak h134 rE134 fun _ _ _=>nil_ρ
 leader:=fun q hq=>match q,hq with
  | 0,_=>ak h134 rL134_0 fun _ _ _=>two_ρ
  | 1,_=>ak h134 rL134_1 fun _ _ _=>two_ρ
  | q + 2,h=>absurd h (by omega)
 replica:=fun q hq=>match q,hq with
  | 0,_=>ak h134 rG134_0 fun _ _ h=>ptr_ρ rfl h
  | 1,_=>ak h134 rG134_1 fun _ _ h=>ptr_ρ rfl h
  | q + 2,h=>absurd h (by omega)
 done:=fun q hq=>match q,hq with
  | 0,_=>ak h134 rD134_0 fun _ _ _=>int_ρ
  | 1,_=>ak h134 rD134_1 fun _ _ _=>int_ρ
  | q + 2,h=>absurd h (by omega)
 ballot:=fun q hq=>match q,hq with
  | 0,_=>ak h134 rbB134_0 fun _ _ _=>int_ρ
  | 1,_=>ak h134 rbB134_1 fun _ _ _=>int_ρ
  | q + 2,h=>absurd h (by omega)
def p211:Nat→Nat:=fun q=>match q with | 0=>49 | 1=>88 | _=>104
theorem h211 (x:Nat→Int):(v211 x).next = 285∧scW 285 (v211 x).l = true:=⟨rfl,by kernel_rfl⟩
theorem q211:Qt 2 1 1 v211_0 v211_1 v211_2 v211 285 (fun _=>0) (fun _=>0) p211 where
 four:=⟨ble_le rfl,ble_le rfl,ble_le rfl,ble_le rfl⟩
 opened:=open_of rO211 (by kernel_rfl)
 go0:=go_of (V:=v211_0) rR211 rU211_0 (ble_le rfl) (by kernel_rfl) (ble_le rfl) (by kernel_rfl)
 go1:=go_of (V:=v211_1) rR211 rU211_1 (ble_le rfl) (by kernel_rfl) (ble_le rfl) (by kernel_rfl)
 go2:=go_std (V:=v211_2) (V3:=v211_3) (xs:=x211) (x0:=fun q=>match q with | 0=>.ofNat 0 | 1=>.ofNat 0 | _=>.ofNat 0) (ids:=[49,88,104]) rR211 rU211_2 (ble_le rfl) (by kernel_rfl) (ble_le rfl) (by kernel_rfl) rfl (by kernel_rfl) (by kernel_rfl)
 go:=go_step (xs:=x211) (L:=v211_3.l) rR211 rU211 (ble_le rfl) (by kernel_rfl) (ble_le rfl) (ble_le rfl) (fun _=>by kernel_rfl) (fun _=>by kernel_rfl) (fun _=>rfl)
 rlt:=fun q hq=>match q,hq with
  | 0,_=>ble_le rfl
  | 1,_=>ble_le rfl
  | 2,_=>ble_le rfl
  | q + 3,h=>absurd h (by omega)
 settled:=ak h211 rS211 fun _ _ _=>yes_ρ
 events:=ak h211 rE211 fun _ _ _=>nil_ρ
 leader:=fun q hq=>match q,hq with
  | 0,_=>ak h211 rL211_0 fun _ _ _=>two_ρ
  | 1,_=>ak h211 rL211_1 fun _ _ _=>two_ρ
  | 2,_=>ak h211 rL211_2 fun _ _ _=>two_ρ
  | q + 3,h=>absurd h (by omega)
 replica:=fun q hq=>match q,hq with
  | 0,_=>ak h211 rG211_0 fun _ _ h=>ptr_ρ rfl h
  | 1,_=>ak h211 rG211_1 fun _ _ h=>ptr_ρ rfl h
  | 2,_=>ak h211 rG211_2 fun _ _ h=>ptr_ρ rfl h
  | q + 3,h=>absurd h (by omega)
 done:=fun q hq=>match q,hq with
  | 0,_=>ak h211 rD211_0 fun _ _ _=>int_ρ
  | 1,_=>ak h211 rD211_1 fun _ _ _=>int_ρ
  | 2,_=>ak h211 rD211_2 fun _ _ _=>int_ρ
  | q + 3,h=>absurd h (by omega)
 ballot:=fun q hq=>match q,hq with
  | 0,_=>ak h211 rbB211_0 fun _ _ _=>int_ρ
  | 1,_=>ak h211 rbB211_1 fun _ _ _=>int_ρ
  | 2,_=>ak h211 rbB211_2 fun _ _ _=>int_ρ
  | q + 3,h=>absurd h (by omega)
def p212:Nat→Nat:=fun q=>match q with | 0=>49 | 1=>88 | _=>104
theorem h212 (x:Nat→Int):(v212 x).next = 305∧scW 305 (v212 x).l = true:=⟨rfl,by kernel_rfl⟩
theorem q212:Qt 2 1 2 v212_0 v212_1 v212_2 v212 305 (fun _=>0) (fun _=>0) p212 where
 four:=⟨ble_le rfl,ble_le rfl,ble_le rfl,ble_le rfl⟩
 opened:=open_of rO212 (by kernel_rfl)
 go0:=go_of (V:=v212_0) rR212 rU212_0 (ble_le rfl) (by kernel_rfl) (ble_le rfl) (by kernel_rfl)
 go1:=go_of (V:=v212_1) rR212 rU212_1 (ble_le rfl) (by kernel_rfl) (ble_le rfl) (by kernel_rfl)
 go2:=go_std (V:=v212_2) (V3:=v212_3) (xs:=x212) (x0:=fun q=>match q with | 0=>.ofNat 0 | 1=>.ofNat 0 | _=>.ofNat 0) (ids:=[49,88,104]) rR212 rU212_2 (ble_le rfl) (by kernel_rfl) (ble_le rfl) (by kernel_rfl) rfl (by kernel_rfl) (by kernel_rfl)
 go:=go_step (xs:=x212) (L:=v212_3.l) rR212 rU212 (ble_le rfl) (by kernel_rfl) (ble_le rfl) (ble_le rfl) (fun _=>by kernel_rfl) (fun _=>by kernel_rfl) (fun _=>rfl)
 rlt:=fun q hq=>match q,hq with
  | 0,_=>ble_le rfl
  | 1,_=>ble_le rfl
  | 2,_=>ble_le rfl
  | q + 3,h=>absurd h (by omega)
 settled:=ak h212 rS212 fun _ _ _=>yes_ρ
 events:=ak h212 rE212 fun _ _ _=>nil_ρ
 leader:=fun q hq=>match q,hq with
  | 0,_=>ak h212 rL212_0 fun _ _ _=>two_ρ
  | 1,_=>ak h212 rL212_1 fun _ _ _=>two_ρ
  | 2,_=>ak h212 rL212_2 fun _ _ _=>two_ρ
  | q + 3,h=>absurd h (by omega)
 replica:=fun q hq=>match q,hq with
  | 0,_=>ak h212 rG212_0 fun _ _ h=>ptr_ρ rfl h
  | 1,_=>ak h212 rG212_1 fun _ _ h=>ptr_ρ rfl h
  | 2,_=>ak h212 rG212_2 fun _ _ h=>ptr_ρ rfl h
  | q + 3,h=>absurd h (by omega)
 done:=fun q hq=>match q,hq with
  | 0,_=>ak h212 rD212_0 fun _ _ _=>int_ρ
  | 1,_=>ak h212 rD212_1 fun _ _ _=>int_ρ
  | 2,_=>ak h212 rD212_2 fun _ _ _=>int_ρ
  | q + 3,h=>absurd h (by omega)
 ballot:=fun q hq=>match q,hq with
  | 0,_=>ak h212 rbB212_0 fun _ _ _=>int_ρ
  | 1,_=>ak h212 rbB212_1 fun _ _ _=>int_ρ
  | 2,_=>ak h212 rbB212_2 fun _ _ _=>int_ρ
  | q + 3,h=>absurd h (by omega)
def p213:Nat→Nat:=fun q=>match q with | 0=>49 | 1=>88 | _=>104
theorem h213 (x:Nat→Int):(v213 x).next = 325∧scW 325 (v213 x).l = true:=⟨rfl,by kernel_rfl⟩
theorem q213:Qt 2 1 3 v213_0 v213_1 v213_2 v213 325 (fun _=>0) (fun _=>0) p213 where
 four:=⟨ble_le rfl,ble_le rfl,ble_le rfl,ble_le rfl⟩
 opened:=open_of rO213 (by kernel_rfl)
 go0:=go_of (V:=v213_0) rR213 rU213_0 (ble_le rfl) (by kernel_rfl) (ble_le rfl) (by kernel_rfl)
 go1:=go_of (V:=v213_1) rR213 rU213_1 (ble_le rfl) (by kernel_rfl) (ble_le rfl) (by kernel_rfl)
 go2:=go_std (V:=v213_2) (V3:=v213_3) (xs:=x213) (x0:=fun q=>match q with | 0=>.ofNat 0 | 1=>.ofNat 0 | _=>.ofNat 0) (ids:=[49,88,104]) rR213 rU213_2 (ble_le rfl) (by kernel_rfl) (ble_le rfl) (by kernel_rfl) rfl (by kernel_rfl) (by kernel_rfl)
 go:=go_step (xs:=x213) (L:=v213_3.l) rR213 rU213 (ble_le rfl) (by kernel_rfl) (ble_le rfl) (ble_le rfl) (fun _=>by kernel_rfl) (fun _=>by kernel_rfl) (fun _=>rfl)
 rlt:=fun q hq=>match q,hq with
  | 0,_=>ble_le rfl
  | 1,_=>ble_le rfl
  | 2,_=>ble_le rfl
  | q + 3,h=>absurd h (by omega)
 settled:=ak h213 rS213 fun _ _ _=>yes_ρ
 events:=ak h213 rE213 fun _ _ _=>nil_ρ
 leader:=fun q hq=>match q,hq with
  | 0,_=>ak h213 rL213_0 fun _ _ _=>two_ρ
  | 1,_=>ak h213 rL213_1 fun _ _ _=>two_ρ
  | 2,_=>ak h213 rL213_2 fun _ _ _=>two_ρ
  | q + 3,h=>absurd h (by omega)
 replica:=fun q hq=>match q,hq with
  | 0,_=>ak h213 rG213_0 fun _ _ h=>ptr_ρ rfl h
  | 1,_=>ak h213 rG213_1 fun _ _ h=>ptr_ρ rfl h
  | 2,_=>ak h213 rG213_2 fun _ _ h=>ptr_ρ rfl h
  | q + 3,h=>absurd h (by omega)
 done:=fun q hq=>match q,hq with
  | 0,_=>ak h213 rD213_0 fun _ _ _=>int_ρ
  | 1,_=>ak h213 rD213_1 fun _ _ _=>int_ρ
  | 2,_=>ak h213 rD213_2 fun _ _ _=>int_ρ
  | q + 3,h=>absurd h (by omega)
 ballot:=fun q hq=>match q,hq with
  | 0,_=>ak h213 rbB213_0 fun _ _ _=>int_ρ
  | 1,_=>ak h213 rbB213_1 fun _ _ _=>int_ρ
  | 2,_=>ak h213 rbB213_2 fun _ _ _=>int_ρ
  | q + 3,h=>absurd h (by omega)
def p214:Nat→Nat:=fun q=>match q with | 0=>49 | 1=>88 | _=>104
theorem h214 (x:Nat→Int):(v214 x).next = 345∧scW 345 (v214 x).l = true:=⟨rfl,by kernel_rfl⟩
theorem q214:Qt 2 1 4 v214_0 v214_1 v214_2 v214 345 (fun _=>0) (fun _=>0) p214 where
 four:=⟨ble_le rfl,ble_le rfl,ble_le rfl,ble_le rfl⟩
 opened:=open_of rO214 (by kernel_rfl)
 go0:=go_of (V:=v214_0) rR214 rU214_0 (ble_le rfl) (by kernel_rfl) (ble_le rfl) (by kernel_rfl)
 go1:=go_of (V:=v214_1) rR214 rU214_1 (ble_le rfl) (by kernel_rfl) (ble_le rfl) (by kernel_rfl)
 go2:=go_std (V:=v214_2) (V3:=v214_3) (xs:=x214) (x0:=fun q=>match q with | 0=>.ofNat 0 | 1=>.ofNat 0 | _=>.ofNat 0) (ids:=[49,88,104]) rR214 rU214_2 (ble_le rfl) (by kernel_rfl) (ble_le rfl) (by kernel_rfl) rfl (by kernel_rfl) (by kernel_rfl)
 go:=go_step (xs:=x214) (L:=v214_3.l) rR214 rU214 (ble_le rfl) (by kernel_rfl) (ble_le rfl) (ble_le rfl) (fun _=>by kernel_rfl) (fun _=>by kernel_rfl) (fun _=>rfl)
 rlt:=fun q hq=>match q,hq with
  | 0,_=>ble_le rfl
  | 1,_=>ble_le rfl
  | 2,_=>ble_le rfl
  | q + 3,h=>absurd h (by omega)
 settled:=ak h214 rS214 fun _ _ _=>yes_ρ
 events:=ak h214 rE214 fun _ _ _=>nil_ρ
 leader:=fun q hq=>match q,hq with
  | 0,_=>ak h214 rL214_0 fun _ _ _=>two_ρ
  | 1,_=>ak h214 rL214_1 fun _ _ _=>two_ρ
  | 2,_=>ak h214 rL214_2 fun _ _ _=>two_ρ
  | q + 3,h=>absurd h (by omega)
 replica:=fun q hq=>match q,hq with
  | 0,_=>ak h214 rG214_0 fun _ _ h=>ptr_ρ rfl h
  | 1,_=>ak h214 rG214_1 fun _ _ h=>ptr_ρ rfl h
  | 2,_=>ak h214 rG214_2 fun _ _ h=>ptr_ρ rfl h
  | q + 3,h=>absurd h (by omega)
 done:=fun q hq=>match q,hq with
  | 0,_=>ak h214 rD214_0 fun _ _ _=>int_ρ
  | 1,_=>ak h214 rD214_1 fun _ _ _=>int_ρ
  | 2,_=>ak h214 rD214_2 fun _ _ _=>int_ρ
  | q + 3,h=>absurd h (by omega)
 ballot:=fun q hq=>match q,hq with
  | 0,_=>ak h214 rbB214_0 fun _ _ _=>int_ρ
  | 1,_=>ak h214 rbB214_1 fun _ _ _=>int_ρ
  | 2,_=>ak h214 rbB214_2 fun _ _ _=>int_ρ
  | q + 3,h=>absurd h (by omega)
def p231:Nat→Nat:=fun q=>match q with | 0=>103 | 1=>182 | _=>216
theorem h231 (x:Nat→Int):(v231 x).next = 1143∧scW 1143 (v231 x).l = true:=⟨rfl,by kernel_rfl⟩
theorem q231:Qt 2 3 1 v231_0 v231_1 v231_2 v231 1143 (fun _=>2) (fun _=>2) p231 where
 four:=⟨ble_le rfl,ble_le rfl,ble_le rfl,ble_le rfl⟩
 opened:=open_of rO231 (by kernel_rfl)
 go0:=go_of (V:=v231_0) rR231 rU231_0 (ble_le rfl) (by kernel_rfl) (ble_le rfl) (by kernel_rfl)
 go1:=go_of (V:=v231_1) rR231 rU231_1 (ble_le rfl) (by kernel_rfl) (ble_le rfl) (by kernel_rfl)
 go2:=go_std (V:=v231_2) (V3:=v231_3) (xs:=x231) (x0:=fun q=>match q with | 0=>.ofNat 0 | 1=>.ofNat 0 | _=>.ofNat 0) (ids:=[103,182,216]) rR231 rU231_2 (ble_le rfl) (by kernel_rfl) (ble_le rfl) (by kernel_rfl) rfl (by kernel_rfl) (by kernel_rfl)
 go:=go_step (xs:=x231) (L:=v231_3.l) rR231 rU231 (ble_le rfl) (by kernel_rfl) (ble_le rfl) (ble_le rfl) (fun _=>by kernel_rfl) (fun _=>by kernel_rfl) (fun _=>rfl)
 rlt:=fun q hq=>match q,hq with
  | 0,_=>ble_le rfl
  | 1,_=>ble_le rfl
  | 2,_=>ble_le rfl
  | q + 3,h=>absurd h (by omega)
 settled:=ak h231 rS231 fun _ _ _=>yes_ρ
 events:=ak h231 rE231 fun _ _ _=>nil_ρ
 leader:=fun q hq=>match q,hq with
  | 0,_=>ak h231 rL231_0 fun _ _ _=>two_ρ
  | 1,_=>ak h231 rL231_1 fun _ _ _=>two_ρ
  | 2,_=>ak h231 rL231_2 fun _ _ _=>two_ρ
  | q + 3,h=>absurd h (by omega)
 replica:=fun q hq=>match q,hq with
  | 0,_=>ak h231 rG231_0 fun _ _ h=>ptr_ρ rfl h
  | 1,_=>ak h231 rG231_1 fun _ _ h=>ptr_ρ rfl h
  | 2,_=>ak h231 rG231_2 fun _ _ h=>ptr_ρ rfl h
  | q + 3,h=>absurd h (by omega)
 done:=fun q hq=>match q,hq with
  | 0,_=>ak h231 rD231_0 fun _ _ _=>int_ρ
  | 1,_=>ak h231 rD231_1 fun _ _ _=>int_ρ
  | 2,_=>ak h231 rD231_2 fun _ _ _=>int_ρ
  | q + 3,h=>absurd h (by omega)
 ballot:=fun q hq=>match q,hq with
  | 0,_=>ak h231 rbB231_0 fun _ _ _=>int_ρ
  | 1,_=>ak h231 rbB231_1 fun _ _ _=>int_ρ
  | 2,_=>ak h231 rbB231_2 fun _ _ _=>int_ρ
  | q + 3,h=>absurd h (by omega)
def p232:Nat→Nat:=fun q=>match q with | 0=>103 | 1=>182 | _=>216
theorem h232 (x:Nat→Int):(v232 x).next = 1163∧scW 1163 (v232 x).l = true:=⟨rfl,by kernel_rfl⟩
theorem q232:Qt 2 3 2 v232_0 v232_1 v232_2 v232 1163 (fun _=>2) (fun _=>2) p232 where
 four:=⟨ble_le rfl,ble_le rfl,ble_le rfl,ble_le rfl⟩
 opened:=open_of rO232 (by kernel_rfl)
 go0:=go_of (V:=v232_0) rR232 rU232_0 (ble_le rfl) (by kernel_rfl) (ble_le rfl) (by kernel_rfl)
 go1:=go_of (V:=v232_1) rR232 rU232_1 (ble_le rfl) (by kernel_rfl) (ble_le rfl) (by kernel_rfl)
 go2:=go_std (V:=v232_2) (V3:=v232_3) (xs:=x232) (x0:=fun q=>match q with | 0=>.ofNat 0 | 1=>.ofNat 0 | _=>.ofNat 0) (ids:=[103,182,216]) rR232 rU232_2 (ble_le rfl) (by kernel_rfl) (ble_le rfl) (by kernel_rfl) rfl (by kernel_rfl) (by kernel_rfl)
 go:=go_step (xs:=x232) (L:=v232_3.l) rR232 rU232 (ble_le rfl) (by kernel_rfl) (ble_le rfl) (ble_le rfl) (fun _=>by kernel_rfl) (fun _=>by kernel_rfl) (fun _=>rfl)
 rlt:=fun q hq=>match q,hq with
  | 0,_=>ble_le rfl
  | 1,_=>ble_le rfl
  | 2,_=>ble_le rfl
  | q + 3,h=>absurd h (by omega)
 settled:=ak h232 rS232 fun _ _ _=>yes_ρ
 events:=ak h232 rE232 fun _ _ _=>nil_ρ
 leader:=fun q hq=>match q,hq with
  | 0,_=>ak h232 rL232_0 fun _ _ _=>two_ρ
  | 1,_=>ak h232 rL232_1 fun _ _ _=>two_ρ
  | 2,_=>ak h232 rL232_2 fun _ _ _=>two_ρ
  | q + 3,h=>absurd h (by omega)
 replica:=fun q hq=>match q,hq with
  | 0,_=>ak h232 rG232_0 fun _ _ h=>ptr_ρ rfl h
  | 1,_=>ak h232 rG232_1 fun _ _ h=>ptr_ρ rfl h
  | 2,_=>ak h232 rG232_2 fun _ _ h=>ptr_ρ rfl h
  | q + 3,h=>absurd h (by omega)
 done:=fun q hq=>match q,hq with
  | 0,_=>ak h232 rD232_0 fun _ _ _=>int_ρ
  | 1,_=>ak h232 rD232_1 fun _ _ _=>int_ρ
  | 2,_=>ak h232 rD232_2 fun _ _ _=>int_ρ
  | q + 3,h=>absurd h (by omega)
 ballot:=fun q hq=>match q,hq with
  | 0,_=>ak h232 rbB232_0 fun _ _ _=>int_ρ
  | 1,_=>ak h232 rbB232_1 fun _ _ _=>int_ρ
  | 2,_=>ak h232 rbB232_2 fun _ _ _=>int_ρ
  | q + 3,h=>absurd h (by omega)
def p233:Nat→Nat:=fun q=>match q with | 0=>103 | 1=>182 | _=>216
theorem h233 (x:Nat→Int):(v233 x).next = 1183∧scW 1183 (v233 x).l = true:=⟨rfl,by kernel_rfl⟩
theorem q233:Qt 2 3 3 v233_0 v233_1 v233_2 v233 1183 (fun _=>2) (fun _=>2) p233 where
 four:=⟨ble_le rfl,ble_le rfl,ble_le rfl,ble_le rfl⟩
 opened:=open_of rO233 (by kernel_rfl)
 go0:=go_of (V:=v233_0) rR233 rU233_0 (ble_le rfl) (by kernel_rfl) (ble_le rfl) (by kernel_rfl)
 go1:=go_of (V:=v233_1) rR233 rU233_1 (ble_le rfl) (by kernel_rfl) (ble_le rfl) (by kernel_rfl)
 go2:=go_std (V:=v233_2) (V3:=v233_3) (xs:=x233) (x0:=fun q=>match q with | 0=>.ofNat 0 | 1=>.ofNat 0 | _=>.ofNat 0) (ids:=[103,182,216]) rR233 rU233_2 (ble_le rfl) (by kernel_rfl) (ble_le rfl) (by kernel_rfl) rfl (by kernel_rfl) (by kernel_rfl)
 go:=go_step (xs:=x233) (L:=v233_3.l) rR233 rU233 (ble_le rfl) (by kernel_rfl) (ble_le rfl) (ble_le rfl) (fun _=>by kernel_rfl) (fun _=>by kernel_rfl) (fun _=>rfl)
 rlt:=fun q hq=>match q,hq with
  | 0,_=>ble_le rfl
  | 1,_=>ble_le rfl
  | 2,_=>ble_le rfl
  | q + 3,h=>absurd h (by omega)
 settled:=ak h233 rS233 fun _ _ _=>yes_ρ
 events:=ak h233 rE233 fun _ _ _=>nil_ρ
 leader:=fun q hq=>match q,hq with
  | 0,_=>ak h233 rL233_0 fun _ _ _=>two_ρ
  | 1,_=>ak h233 rL233_1 fun _ _ _=>two_ρ
  | 2,_=>ak h233 rL233_2 fun _ _ _=>two_ρ
  | q + 3,h=>absurd h (by omega)
 replica:=fun q hq=>match q,hq with
  | 0,_=>ak h233 rG233_0 fun _ _ h=>ptr_ρ rfl h
  | 1,_=>ak h233 rG233_1 fun _ _ h=>ptr_ρ rfl h
  | 2,_=>ak h233 rG233_2 fun _ _ h=>ptr_ρ rfl h
  | q + 3,h=>absurd h (by omega)
 done:=fun q hq=>match q,hq with
  | 0,_=>ak h233 rD233_0 fun _ _ _=>int_ρ
  | 1,_=>ak h233 rD233_1 fun _ _ _=>int_ρ
  | 2,_=>ak h233 rD233_2 fun _ _ _=>int_ρ
  | q + 3,h=>absurd h (by omega)
 ballot:=fun q hq=>match q,hq with
  | 0,_=>ak h233 rbB233_0 fun _ _ _=>int_ρ
  | 1,_=>ak h233 rbB233_1 fun _ _ _=>int_ρ
  | 2,_=>ak h233 rbB233_2 fun _ _ _=>int_ρ
  | q + 3,h=>absurd h (by omega)
def p234:Nat→Nat:=fun q=>match q with | 0=>103 | 1=>182 | _=>216
theorem h234 (x:Nat→Int):(v234 x).next = 1203∧scW 1203 (v234 x).l = true:=⟨rfl,by kernel_rfl⟩
theorem q234:Qt 2 3 4 v234_0 v234_1 v234_2 v234 1203 (fun _=>2) (fun _=>2) p234 where
 four:=⟨ble_le rfl,ble_le rfl,ble_le rfl,ble_le rfl⟩
 opened:=open_of rO234 (by kernel_rfl)
 go0:=go_of (V:=v234_0) rR234 rU234_0 (ble_le rfl) (by kernel_rfl) (ble_le rfl) (by kernel_rfl)
 go1:=go_of (V:=v234_1) rR234 rU234_1 (ble_le rfl) (by kernel_rfl) (ble_le rfl) (by kernel_rfl)
 go2:=go_std (V:=v234_2) (V3:=v234_3) (xs:=x234) (x0:=fun q=>match q with | 0=>.ofNat 0 | 1=>.ofNat 0 | _=>.ofNat 0) (ids:=[103,182,216]) rR234 rU234_2 (ble_le rfl) (by kernel_rfl) (ble_le rfl) (by kernel_rfl) rfl (by kernel_rfl) (by kernel_rfl)
 go:=go_step (xs:=x234) (L:=v234_3.l) rR234 rU234 (ble_le rfl) (by kernel_rfl) (ble_le rfl) (ble_le rfl) (fun _=>by kernel_rfl) (fun _=>by kernel_rfl) (fun _=>rfl)
 rlt:=fun q hq=>match q,hq with
  | 0,_=>ble_le rfl
  | 1,_=>ble_le rfl
  | 2,_=>ble_le rfl
  | q + 3,h=>absurd h (by omega)
 settled:=ak h234 rS234 fun _ _ _=>yes_ρ
 events:=ak h234 rE234 fun _ _ _=>nil_ρ
 leader:=fun q hq=>match q,hq with
  | 0,_=>ak h234 rL234_0 fun _ _ _=>two_ρ
  | 1,_=>ak h234 rL234_1 fun _ _ _=>two_ρ
  | 2,_=>ak h234 rL234_2 fun _ _ _=>two_ρ
  | q + 3,h=>absurd h (by omega)
 replica:=fun q hq=>match q,hq with
  | 0,_=>ak h234 rG234_0 fun _ _ h=>ptr_ρ rfl h
  | 1,_=>ak h234 rG234_1 fun _ _ h=>ptr_ρ rfl h
  | 2,_=>ak h234 rG234_2 fun _ _ h=>ptr_ρ rfl h
  | q + 3,h=>absurd h (by omega)
 done:=fun q hq=>match q,hq with
  | 0,_=>ak h234 rD234_0 fun _ _ _=>int_ρ
  | 1,_=>ak h234 rD234_1 fun _ _ _=>int_ρ
  | 2,_=>ak h234 rD234_2 fun _ _ _=>int_ρ
  | q + 3,h=>absurd h (by omega)
 ballot:=fun q hq=>match q,hq with
  | 0,_=>ak h234 rbB234_0 fun _ _ _=>int_ρ
  | 1,_=>ak h234 rbB234_1 fun _ _ _=>int_ρ
  | 2,_=>ak h234 rbB234_2 fun _ _ _=>int_ρ
  | q + 3,h=>absurd h (by omega)
def p311:Nat→Nat:=fun q=>match q with | 0=>49 | 1=>88 | 2=>104 | _=>120
theorem h311 (x:Nat→Int):(v311 x).next = 337∧scW 337 (v311 x).l = true:=⟨rfl,by kernel_rfl⟩
theorem q311:Qt 3 1 1 v311_0 v311_1 v311_2 v311 337 (fun _=>0) (fun _=>0) p311 where
 four:=⟨ble_le rfl,ble_le rfl,ble_le rfl,ble_le rfl⟩
 opened:=open_of rO311 (by kernel_rfl)
 go0:=go_of (V:=v311_0) rR311 rU311_0 (ble_le rfl) (by kernel_rfl) (ble_le rfl) (by kernel_rfl)
 go1:=go_of (V:=v311_1) rR311 rU311_1 (ble_le rfl) (by kernel_rfl) (ble_le rfl) (by kernel_rfl)
 go2:=go_std (V:=v311_2) (V3:=v311_3) (xs:=x311) (x0:=fun q=>match q with | 0=>.ofNat 0 | 1=>.ofNat 0 | 2=>.ofNat 0 | _=>.ofNat 0) (ids:=[49,88,104,120]) rR311 rU311_2 (ble_le rfl) (by kernel_rfl) (ble_le rfl) (by kernel_rfl) rfl (by kernel_rfl) (by kernel_rfl)
 go:=go_step (xs:=x311) (L:=v311_3.l) rR311 rU311 (ble_le rfl) (by kernel_rfl) (ble_le rfl) (ble_le rfl) (fun _=>by kernel_rfl) (fun _=>by kernel_rfl) (fun _=>rfl)
 rlt:=fun q hq=>match q,hq with
  | 0,_=>ble_le rfl
  | 1,_=>ble_le rfl
  | 2,_=>ble_le rfl
  | 3,_=>ble_le rfl
  | q + 4,h=>absurd h (by omega)
 settled:=ak h311 rS311 fun _ _ _=>yes_ρ
 events:=ak h311 rE311 fun _ _ _=>nil_ρ
 leader:=fun q hq=>match q,hq with
  | 0,_=>ak h311 rL311_0 fun _ _ _=>two_ρ
  | 1,_=>ak h311 rL311_1 fun _ _ _=>two_ρ
  | 2,_=>ak h311 rL311_2 fun _ _ _=>two_ρ
  | 3,_=>ak h311 rL311_3 fun _ _ _=>two_ρ
  | q + 4,h=>absurd h (by omega)
 replica:=fun q hq=>match q,hq with
  | 0,_=>ak h311 rG311_0 fun _ _ h=>ptr_ρ rfl h
  | 1,_=>ak h311 rG311_1 fun _ _ h=>ptr_ρ rfl h
  | 2,_=>ak h311 rG311_2 fun _ _ h=>ptr_ρ rfl h
  | 3,_=>ak h311 rG311_3 fun _ _ h=>ptr_ρ rfl h
  | q + 4,h=>absurd h (by omega)
 done:=fun q hq=>match q,hq with
  | 0,_=>ak h311 rD311_0 fun _ _ _=>int_ρ
  | 1,_=>ak h311 rD311_1 fun _ _ _=>int_ρ
  | 2,_=>ak h311 rD311_2 fun _ _ _=>int_ρ
  | 3,_=>ak h311 rD311_3 fun _ _ _=>int_ρ
  | q + 4,h=>absurd h (by omega)
 ballot:=fun q hq=>match q,hq with
  | 0,_=>ak h311 rbB311_0 fun _ _ _=>int_ρ
  | 1,_=>ak h311 rbB311_1 fun _ _ _=>int_ρ
  | 2,_=>ak h311 rbB311_2 fun _ _ _=>int_ρ
  | 3,_=>ak h311 rbB311_3 fun _ _ _=>int_ρ
  | q + 4,h=>absurd h (by omega)
def p312:Nat→Nat:=fun q=>match q with | 0=>49 | 1=>88 | 2=>104 | _=>120
theorem h312 (x:Nat→Int):(v312 x).next = 357∧scW 357 (v312 x).l = true:=⟨rfl,by kernel_rfl⟩
theorem q312:Qt 3 1 2 v312_0 v312_1 v312_2 v312 357 (fun _=>0) (fun _=>0) p312 where
 four:=⟨ble_le rfl,ble_le rfl,ble_le rfl,ble_le rfl⟩
 opened:=open_of rO312 (by kernel_rfl)
 go0:=go_of (V:=v312_0) rR312 rU312_0 (ble_le rfl) (by kernel_rfl) (ble_le rfl) (by kernel_rfl)
 go1:=go_of (V:=v312_1) rR312 rU312_1 (ble_le rfl) (by kernel_rfl) (ble_le rfl) (by kernel_rfl)
 go2:=go_std (V:=v312_2) (V3:=v312_3) (xs:=x312) (x0:=fun q=>match q with | 0=>.ofNat 0 | 1=>.ofNat 0 | 2=>.ofNat 0 | _=>.ofNat 0) (ids:=[49,88,104,120]) rR312 rU312_2 (ble_le rfl) (by kernel_rfl) (ble_le rfl) (by kernel_rfl) rfl (by kernel_rfl) (by kernel_rfl)
 go:=go_step (xs:=x312) (L:=v312_3.l) rR312 rU312 (ble_le rfl) (by kernel_rfl) (ble_le rfl) (ble_le rfl) (fun _=>by kernel_rfl) (fun _=>by kernel_rfl) (fun _=>rfl)
 rlt:=fun q hq=>match q,hq with
  | 0,_=>ble_le rfl
  | 1,_=>ble_le rfl
  | 2,_=>ble_le rfl
  | 3,_=>ble_le rfl
  | q + 4,h=>absurd h (by omega)
 settled:=ak h312 rS312 fun _ _ _=>yes_ρ
 events:=ak h312 rE312 fun _ _ _=>nil_ρ
 leader:=fun q hq=>match q,hq with
  | 0,_=>ak h312 rL312_0 fun _ _ _=>two_ρ
  | 1,_=>ak h312 rL312_1 fun _ _ _=>two_ρ
  | 2,_=>ak h312 rL312_2 fun _ _ _=>two_ρ
  | 3,_=>ak h312 rL312_3 fun _ _ _=>two_ρ
  | q + 4,h=>absurd h (by omega)
 replica:=fun q hq=>match q,hq with
  | 0,_=>ak h312 rG312_0 fun _ _ h=>ptr_ρ rfl h
  | 1,_=>ak h312 rG312_1 fun _ _ h=>ptr_ρ rfl h
  | 2,_=>ak h312 rG312_2 fun _ _ h=>ptr_ρ rfl h
  | 3,_=>ak h312 rG312_3 fun _ _ h=>ptr_ρ rfl h
  | q + 4,h=>absurd h (by omega)
 done:=fun q hq=>match q,hq with
  | 0,_=>ak h312 rD312_0 fun _ _ _=>int_ρ
  | 1,_=>ak h312 rD312_1 fun _ _ _=>int_ρ
  | 2,_=>ak h312 rD312_2 fun _ _ _=>int_ρ
  | 3,_=>ak h312 rD312_3 fun _ _ _=>int_ρ
  | q + 4,h=>absurd h (by omega)
 ballot:=fun q hq=>match q,hq with
  | 0,_=>ak h312 rbB312_0 fun _ _ _=>int_ρ
  | 1,_=>ak h312 rbB312_1 fun _ _ _=>int_ρ
  | 2,_=>ak h312 rbB312_2 fun _ _ _=>int_ρ
  | 3,_=>ak h312 rbB312_3 fun _ _ _=>int_ρ
  | q + 4,h=>absurd h (by omega)
def p313:Nat→Nat:=fun q=>match q with | 0=>49 | 1=>88 | 2=>104 | _=>120
theorem h313 (x:Nat→Int):(v313 x).next = 377∧scW 377 (v313 x).l = true:=⟨rfl,by kernel_rfl⟩
theorem q313:Qt 3 1 3 v313_0 v313_1 v313_2 v313 377 (fun _=>0) (fun _=>0) p313 where
 four:=⟨ble_le rfl,ble_le rfl,ble_le rfl,ble_le rfl⟩
 opened:=open_of rO313 (by kernel_rfl)
 go0:=go_of (V:=v313_0) rR313 rU313_0 (ble_le rfl) (by kernel_rfl) (ble_le rfl) (by kernel_rfl)
 go1:=go_of (V:=v313_1) rR313 rU313_1 (ble_le rfl) (by kernel_rfl) (ble_le rfl) (by kernel_rfl)
 go2:=go_std (V:=v313_2) (V3:=v313_3) (xs:=x313) (x0:=fun q=>match q with | 0=>.ofNat 0 | 1=>.ofNat 0 | 2=>.ofNat 0 | _=>.ofNat 0) (ids:=[49,88,104,120]) rR313 rU313_2 (ble_le rfl) (by kernel_rfl) (ble_le rfl) (by kernel_rfl) rfl (by kernel_rfl) (by kernel_rfl)
 go:=go_step (xs:=x313) (L:=v313_3.l) rR313 rU313 (ble_le rfl) (by kernel_rfl) (ble_le rfl) (ble_le rfl) (fun _=>by kernel_rfl) (fun _=>by kernel_rfl) (fun _=>rfl)
 rlt:=fun q hq=>match q,hq with
  | 0,_=>ble_le rfl
  | 1,_=>ble_le rfl
  | 2,_=>ble_le rfl
  | 3,_=>ble_le rfl
  | q + 4,h=>absurd h (by omega)
 settled:=ak h313 rS313 fun _ _ _=>yes_ρ
 events:=ak h313 rE313 fun _ _ _=>nil_ρ
 leader:=fun q hq=>match q,hq with
  | 0,_=>ak h313 rL313_0 fun _ _ _=>two_ρ
  | 1,_=>ak h313 rL313_1 fun _ _ _=>two_ρ
  | 2,_=>ak h313 rL313_2 fun _ _ _=>two_ρ
  | 3,_=>ak h313 rL313_3 fun _ _ _=>two_ρ
  | q + 4,h=>absurd h (by omega)
 replica:=fun q hq=>match q,hq with
  | 0,_=>ak h313 rG313_0 fun _ _ h=>ptr_ρ rfl h
  | 1,_=>ak h313 rG313_1 fun _ _ h=>ptr_ρ rfl h
  | 2,_=>ak h313 rG313_2 fun _ _ h=>ptr_ρ rfl h
  | 3,_=>ak h313 rG313_3 fun _ _ h=>ptr_ρ rfl h
  | q + 4,h=>absurd h (by omega)
 done:=fun q hq=>match q,hq with
  | 0,_=>ak h313 rD313_0 fun _ _ _=>int_ρ
  | 1,_=>ak h313 rD313_1 fun _ _ _=>int_ρ
  | 2,_=>ak h313 rD313_2 fun _ _ _=>int_ρ
  | 3,_=>ak h313 rD313_3 fun _ _ _=>int_ρ
  | q + 4,h=>absurd h (by omega)
 ballot:=fun q hq=>match q,hq with
  | 0,_=>ak h313 rbB313_0 fun _ _ _=>int_ρ
  | 1,_=>ak h313 rbB313_1 fun _ _ _=>int_ρ
  | 2,_=>ak h313 rbB313_2 fun _ _ _=>int_ρ
  | 3,_=>ak h313 rbB313_3 fun _ _ _=>int_ρ
  | q + 4,h=>absurd h (by omega)
def p314:Nat→Nat:=fun q=>match q with | 0=>49 | 1=>88 | 2=>104 | _=>120
theorem h314 (x:Nat→Int):(v314 x).next = 397∧scW 397 (v314 x).l = true:=⟨rfl,by kernel_rfl⟩
theorem q314:Qt 3 1 4 v314_0 v314_1 v314_2 v314 397 (fun _=>0) (fun _=>0) p314 where
 four:=⟨ble_le rfl,ble_le rfl,ble_le rfl,ble_le rfl⟩
 opened:=open_of rO314 (by kernel_rfl)
 go0:=go_of (V:=v314_0) rR314 rU314_0 (ble_le rfl) (by kernel_rfl) (ble_le rfl) (by kernel_rfl)
 go1:=go_of (V:=v314_1) rR314 rU314_1 (ble_le rfl) (by kernel_rfl) (ble_le rfl) (by kernel_rfl)
 go2:=go_std (V:=v314_2) (V3:=v314_3) (xs:=x314) (x0:=fun q=>match q with | 0=>.ofNat 0 | 1=>.ofNat 0 | 2=>.ofNat 0 | _=>.ofNat 0) (ids:=[49,88,104,120]) rR314 rU314_2 (ble_le rfl) (by kernel_rfl) (ble_le rfl) (by kernel_rfl) rfl (by kernel_rfl) (by kernel_rfl)
 go:=go_step (xs:=x314) (L:=v314_3.l) rR314 rU314 (ble_le rfl) (by kernel_rfl) (ble_le rfl) (ble_le rfl) (fun _=>by kernel_rfl) (fun _=>by kernel_rfl) (fun _=>rfl)
 rlt:=fun q hq=>match q,hq with
  | 0,_=>ble_le rfl
  | 1,_=>ble_le rfl
  | 2,_=>ble_le rfl
  | 3,_=>ble_le rfl
  | q + 4,h=>absurd h (by omega)
 settled:=ak h314 rS314 fun _ _ _=>yes_ρ
 events:=ak h314 rE314 fun _ _ _=>nil_ρ
 leader:=fun q hq=>match q,hq with
  | 0,_=>ak h314 rL314_0 fun _ _ _=>two_ρ
  | 1,_=>ak h314 rL314_1 fun _ _ _=>two_ρ
  | 2,_=>ak h314 rL314_2 fun _ _ _=>two_ρ
  | 3,_=>ak h314 rL314_3 fun _ _ _=>two_ρ
  | q + 4,h=>absurd h (by omega)
 replica:=fun q hq=>match q,hq with
  | 0,_=>ak h314 rG314_0 fun _ _ h=>ptr_ρ rfl h
  | 1,_=>ak h314 rG314_1 fun _ _ h=>ptr_ρ rfl h
  | 2,_=>ak h314 rG314_2 fun _ _ h=>ptr_ρ rfl h
  | 3,_=>ak h314 rG314_3 fun _ _ h=>ptr_ρ rfl h
  | q + 4,h=>absurd h (by omega)
 done:=fun q hq=>match q,hq with
  | 0,_=>ak h314 rD314_0 fun _ _ _=>int_ρ
  | 1,_=>ak h314 rD314_1 fun _ _ _=>int_ρ
  | 2,_=>ak h314 rD314_2 fun _ _ _=>int_ρ
  | 3,_=>ak h314 rD314_3 fun _ _ _=>int_ρ
  | q + 4,h=>absurd h (by omega)
 ballot:=fun q hq=>match q,hq with
  | 0,_=>ak h314 rbB314_0 fun _ _ _=>int_ρ
  | 1,_=>ak h314 rbB314_1 fun _ _ _=>int_ρ
  | 2,_=>ak h314 rbB314_2 fun _ _ _=>int_ρ
  | 3,_=>ak h314 rbB314_3 fun _ _ _=>int_ρ
  | q + 4,h=>absurd h (by omega)
def p331:Nat→Nat:=fun q=>match q with | 0=>103 | 1=>182 | 2=>216 | _=>250
theorem h331 (x:Nat→Int):(v331 x).next = 1462∧scW 1462 (v331 x).l = true:=⟨rfl,by kernel_rfl⟩
theorem q331:Qt 3 3 1 v331_0 v331_1 v331_2 v331 1462 (fun _=>2) (fun _=>2) p331 where
 four:=⟨ble_le rfl,ble_le rfl,ble_le rfl,ble_le rfl⟩
 opened:=open_of rO331 (by kernel_rfl)
 go0:=go_of (V:=v331_0) rR331 rU331_0 (ble_le rfl) (by kernel_rfl) (ble_le rfl) (by kernel_rfl)
 go1:=go_of (V:=v331_1) rR331 rU331_1 (ble_le rfl) (by kernel_rfl) (ble_le rfl) (by kernel_rfl)
 go2:=go_std (V:=v331_2) (V3:=v331_3) (xs:=x331) (x0:=fun q=>match q with | 0=>.ofNat 0 | 1=>.ofNat 0 | 2=>.ofNat 0 | _=>.ofNat 0) (ids:=[103,182,216,250]) rR331 rU331_2 (ble_le rfl) (by kernel_rfl) (ble_le rfl) (by kernel_rfl) rfl (by kernel_rfl) (by kernel_rfl)
 go:=go_step (xs:=x331) (L:=v331_3.l) rR331 rU331 (ble_le rfl) (by kernel_rfl) (ble_le rfl) (ble_le rfl) (fun _=>by kernel_rfl) (fun _=>by kernel_rfl) (fun _=>rfl)
 rlt:=fun q hq=>match q,hq with
  | 0,_=>ble_le rfl
  | 1,_=>ble_le rfl
  | 2,_=>ble_le rfl
  | 3,_=>ble_le rfl
  | q + 4,h=>absurd h (by omega)
 settled:=ak h331 rS331 fun _ _ _=>yes_ρ
 events:=ak h331 rE331 fun _ _ _=>nil_ρ
 leader:=fun q hq=>match q,hq with
  | 0,_=>ak h331 rL331_0 fun _ _ _=>two_ρ
  | 1,_=>ak h331 rL331_1 fun _ _ _=>two_ρ
  | 2,_=>ak h331 rL331_2 fun _ _ _=>two_ρ
  | 3,_=>ak h331 rL331_3 fun _ _ _=>two_ρ
  | q + 4,h=>absurd h (by omega)
 replica:=fun q hq=>match q,hq with
  | 0,_=>ak h331 rG331_0 fun _ _ h=>ptr_ρ rfl h
  | 1,_=>ak h331 rG331_1 fun _ _ h=>ptr_ρ rfl h
  | 2,_=>ak h331 rG331_2 fun _ _ h=>ptr_ρ rfl h
  | 3,_=>ak h331 rG331_3 fun _ _ h=>ptr_ρ rfl h
  | q + 4,h=>absurd h (by omega)
 done:=fun q hq=>match q,hq with
  | 0,_=>ak h331 rD331_0 fun _ _ _=>int_ρ
  | 1,_=>ak h331 rD331_1 fun _ _ _=>int_ρ
  | 2,_=>ak h331 rD331_2 fun _ _ _=>int_ρ
  | 3,_=>ak h331 rD331_3 fun _ _ _=>int_ρ
  | q + 4,h=>absurd h (by omega)
 ballot:=fun q hq=>match q,hq with
  | 0,_=>ak h331 rbB331_0 fun _ _ _=>int_ρ
  | 1,_=>ak h331 rbB331_1 fun _ _ _=>int_ρ
  | 2,_=>ak h331 rbB331_2 fun _ _ _=>int_ρ
  | 3,_=>ak h331 rbB331_3 fun _ _ _=>int_ρ
  | q + 4,h=>absurd h (by omega)
def p332:Nat→Nat:=fun q=>match q with | 0=>103 | 1=>182 | 2=>216 | _=>250
theorem h332 (x:Nat→Int):(v332 x).next = 1482∧scW 1482 (v332 x).l = true:=⟨rfl,by kernel_rfl⟩
theorem q332:Qt 3 3 2 v332_0 v332_1 v332_2 v332 1482 (fun _=>2) (fun _=>2) p332 where
 four:=⟨ble_le rfl,ble_le rfl,ble_le rfl,ble_le rfl⟩
 opened:=open_of rO332 (by kernel_rfl)
 go0:=go_of (V:=v332_0) rR332 rU332_0 (ble_le rfl) (by kernel_rfl) (ble_le rfl) (by kernel_rfl)
 go1:=go_of (V:=v332_1) rR332 rU332_1 (ble_le rfl) (by kernel_rfl) (ble_le rfl) (by kernel_rfl)
 go2:=go_std (V:=v332_2) (V3:=v332_3) (xs:=x332) (x0:=fun q=>match q with | 0=>.ofNat 0 | 1=>.ofNat 0 | 2=>.ofNat 0 | _=>.ofNat 0) (ids:=[103,182,216,250]) rR332 rU332_2 (ble_le rfl) (by kernel_rfl) (ble_le rfl) (by kernel_rfl) rfl (by kernel_rfl) (by kernel_rfl)
 go:=go_step (xs:=x332) (L:=v332_3.l) rR332 rU332 (ble_le rfl) (by kernel_rfl) (ble_le rfl) (ble_le rfl) (fun _=>by kernel_rfl) (fun _=>by kernel_rfl) (fun _=>rfl)
 rlt:=fun q hq=>match q,hq with
  | 0,_=>ble_le rfl
  | 1,_=>ble_le rfl
  | 2,_=>ble_le rfl
  | 3,_=>ble_le rfl
  | q + 4,h=>absurd h (by omega)
 settled:=ak h332 rS332 fun _ _ _=>yes_ρ
 events:=ak h332 rE332 fun _ _ _=>nil_ρ
 leader:=fun q hq=>match q,hq with
  | 0,_=>ak h332 rL332_0 fun _ _ _=>two_ρ
  | 1,_=>ak h332 rL332_1 fun _ _ _=>two_ρ
  | 2,_=>ak h332 rL332_2 fun _ _ _=>two_ρ
  | 3,_=>ak h332 rL332_3 fun _ _ _=>two_ρ
  | q + 4,h=>absurd h (by omega)
 replica:=fun q hq=>match q,hq with
  | 0,_=>ak h332 rG332_0 fun _ _ h=>ptr_ρ rfl h
  | 1,_=>ak h332 rG332_1 fun _ _ h=>ptr_ρ rfl h
  | 2,_=>ak h332 rG332_2 fun _ _ h=>ptr_ρ rfl h
  | 3,_=>ak h332 rG332_3 fun _ _ h=>ptr_ρ rfl h
  | q + 4,h=>absurd h (by omega)
 done:=fun q hq=>match q,hq with
  | 0,_=>ak h332 rD332_0 fun _ _ _=>int_ρ
  | 1,_=>ak h332 rD332_1 fun _ _ _=>int_ρ
  | 2,_=>ak h332 rD332_2 fun _ _ _=>int_ρ
  | 3,_=>ak h332 rD332_3 fun _ _ _=>int_ρ
  | q + 4,h=>absurd h (by omega)
 ballot:=fun q hq=>match q,hq with
  | 0,_=>ak h332 rbB332_0 fun _ _ _=>int_ρ
  | 1,_=>ak h332 rbB332_1 fun _ _ _=>int_ρ
  | 2,_=>ak h332 rbB332_2 fun _ _ _=>int_ρ
  | 3,_=>ak h332 rbB332_3 fun _ _ _=>int_ρ
  | q + 4,h=>absurd h (by omega)
def p333:Nat→Nat:=fun q=>match q with | 0=>103 | 1=>182 | 2=>216 | _=>250
theorem h333 (x:Nat→Int):(v333 x).next = 1502∧scW 1502 (v333 x).l = true:=⟨rfl,by kernel_rfl⟩
theorem q333:Qt 3 3 3 v333_0 v333_1 v333_2 v333 1502 (fun _=>2) (fun _=>2) p333 where
 four:=⟨ble_le rfl,ble_le rfl,ble_le rfl,ble_le rfl⟩
 opened:=open_of rO333 (by kernel_rfl)
 go0:=go_of (V:=v333_0) rR333 rU333_0 (ble_le rfl) (by kernel_rfl) (ble_le rfl) (by kernel_rfl)
 go1:=go_of (V:=v333_1) rR333 rU333_1 (ble_le rfl) (by kernel_rfl) (ble_le rfl) (by kernel_rfl)
 go2:=go_std (V:=v333_2) (V3:=v333_3) (xs:=x333) (x0:=fun q=>match q with | 0=>.ofNat 0 | 1=>.ofNat 0 | 2=>.ofNat 0 | _=>.ofNat 0) (ids:=[103,182,216,250]) rR333 rU333_2 (ble_le rfl) (by kernel_rfl) (ble_le rfl) (by kernel_rfl) rfl (by kernel_rfl) (by kernel_rfl)
 go:=go_step (xs:=x333) (L:=v333_3.l) rR333 rU333 (ble_le rfl) (by kernel_rfl) (ble_le rfl) (ble_le rfl) (fun _=>by kernel_rfl) (fun _=>by kernel_rfl) (fun _=>rfl)
 rlt:=fun q hq=>match q,hq with
  | 0,_=>ble_le rfl
  | 1,_=>ble_le rfl
  | 2,_=>ble_le rfl
  | 3,_=>ble_le rfl
  | q + 4,h=>absurd h (by omega)
 settled:=ak h333 rS333 fun _ _ _=>yes_ρ
 events:=ak h333 rE333 fun _ _ _=>nil_ρ
 leader:=fun q hq=>match q,hq with
  | 0,_=>ak h333 rL333_0 fun _ _ _=>two_ρ
  | 1,_=>ak h333 rL333_1 fun _ _ _=>two_ρ
  | 2,_=>ak h333 rL333_2 fun _ _ _=>two_ρ
  | 3,_=>ak h333 rL333_3 fun _ _ _=>two_ρ
  | q + 4,h=>absurd h (by omega)
 replica:=fun q hq=>match q,hq with
  | 0,_=>ak h333 rG333_0 fun _ _ h=>ptr_ρ rfl h
  | 1,_=>ak h333 rG333_1 fun _ _ h=>ptr_ρ rfl h
  | 2,_=>ak h333 rG333_2 fun _ _ h=>ptr_ρ rfl h
  | 3,_=>ak h333 rG333_3 fun _ _ h=>ptr_ρ rfl h
  | q + 4,h=>absurd h (by omega)
 done:=fun q hq=>match q,hq with
  | 0,_=>ak h333 rD333_0 fun _ _ _=>int_ρ
  | 1,_=>ak h333 rD333_1 fun _ _ _=>int_ρ
  | 2,_=>ak h333 rD333_2 fun _ _ _=>int_ρ
  | 3,_=>ak h333 rD333_3 fun _ _ _=>int_ρ
  | q + 4,h=>absurd h (by omega)
 ballot:=fun q hq=>match q,hq with
  | 0,_=>ak h333 rbB333_0 fun _ _ _=>int_ρ
  | 1,_=>ak h333 rbB333_1 fun _ _ _=>int_ρ
  | 2,_=>ak h333 rbB333_2 fun _ _ _=>int_ρ
  | 3,_=>ak h333 rbB333_3 fun _ _ _=>int_ρ
  | q + 4,h=>absurd h (by omega)
def p334:Nat→Nat:=fun q=>match q with | 0=>103 | 1=>182 | 2=>216 | _=>250
theorem h334 (x:Nat→Int):(v334 x).next = 1522∧scW 1522 (v334 x).l = true:=⟨rfl,by kernel_rfl⟩
theorem q334:Qt 3 3 4 v334_0 v334_1 v334_2 v334 1522 (fun _=>2) (fun _=>2) p334 where
 four:=⟨ble_le rfl,ble_le rfl,ble_le rfl,ble_le rfl⟩
 opened:=open_of rO334 (by kernel_rfl)
 go0:=go_of (V:=v334_0) rR334 rU334_0 (ble_le rfl) (by kernel_rfl) (ble_le rfl) (by kernel_rfl)
 go1:=go_of (V:=v334_1) rR334 rU334_1 (ble_le rfl) (by kernel_rfl) (ble_le rfl) (by kernel_rfl)
 go2:=go_std (V:=v334_2) (V3:=v334_3) (xs:=x334) (x0:=fun q=>match q with | 0=>.ofNat 0 | 1=>.ofNat 0 | 2=>.ofNat 0 | _=>.ofNat 0) (ids:=[103,182,216,250]) rR334 rU334_2 (ble_le rfl) (by kernel_rfl) (ble_le rfl) (by kernel_rfl) rfl (by kernel_rfl) (by kernel_rfl)
 go:=go_step (xs:=x334) (L:=v334_3.l) rR334 rU334 (ble_le rfl) (by kernel_rfl) (ble_le rfl) (ble_le rfl) (fun _=>by kernel_rfl) (fun _=>by kernel_rfl) (fun _=>rfl)
 rlt:=fun q hq=>match q,hq with
  | 0,_=>ble_le rfl
  | 1,_=>ble_le rfl
  | 2,_=>ble_le rfl
  | 3,_=>ble_le rfl
  | q + 4,h=>absurd h (by omega)
 settled:=ak h334 rS334 fun _ _ _=>yes_ρ
 events:=ak h334 rE334 fun _ _ _=>nil_ρ
 leader:=fun q hq=>match q,hq with
  | 0,_=>ak h334 rL334_0 fun _ _ _=>two_ρ
  | 1,_=>ak h334 rL334_1 fun _ _ _=>two_ρ
  | 2,_=>ak h334 rL334_2 fun _ _ _=>two_ρ
  | 3,_=>ak h334 rL334_3 fun _ _ _=>two_ρ
  | q + 4,h=>absurd h (by omega)
 replica:=fun q hq=>match q,hq with
  | 0,_=>ak h334 rG334_0 fun _ _ h=>ptr_ρ rfl h
  | 1,_=>ak h334 rG334_1 fun _ _ h=>ptr_ρ rfl h
  | 2,_=>ak h334 rG334_2 fun _ _ h=>ptr_ρ rfl h
  | 3,_=>ak h334 rG334_3 fun _ _ h=>ptr_ρ rfl h
  | q + 4,h=>absurd h (by omega)
 done:=fun q hq=>match q,hq with
  | 0,_=>ak h334 rD334_0 fun _ _ _=>int_ρ
  | 1,_=>ak h334 rD334_1 fun _ _ _=>int_ρ
  | 2,_=>ak h334 rD334_2 fun _ _ _=>int_ρ
  | 3,_=>ak h334 rD334_3 fun _ _ _=>int_ρ
  | q + 4,h=>absurd h (by omega)
 ballot:=fun q hq=>match q,hq with
  | 0,_=>ak h334 rbB334_0 fun _ _ _=>int_ρ
  | 1,_=>ak h334 rbB334_1 fun _ _ _=>int_ρ
  | 2,_=>ak h334 rbB334_2 fun _ _ _=>int_ρ
  | 3,_=>ak h334 rbB334_3 fun _ _ _=>int_ρ
  | q + 4,h=>absurd h (by omega)
end Go.Proofs.YtkpmdlcmbemgdaaGreat
