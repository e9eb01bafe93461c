/- A part of a proof over the abstract machine. No conditions. -/
import Derived.Test.YtenimkekacdojaaGreatSeatE1
import Derived.Test.YtenimkekacdojaaGreatSeatE2
import Derived.Test.YtenimkekacdojaaGreatSeatE3
import Derived.Test.YtenimkekacdojaaGreatSeatE4
import Derived.Test.YtenimkekacdojaaGreatSeatE5
import Derived.Test.YtenimkekacdojaaGreatSeatE6
import Derived.Test.YtenimkekacdojaaGreatSeatE7
import Derived.Test.YtenimkekacdojaaGreatSeatE8
import Derived.Test.YtenimkekacdojaaGreatSeatE9
import Derived.Test.YtenimkekacdojaaGreatSeatE10
import Derived.Test.YtenimkekacdojaaGreatSeatE11
import Derived.Test.YtenimkekacdojaaGreatSeatE12
import Derived.Test.YtenimkekacdojaaGreatSeatE13
import Derived.Test.YtenimkekacdojaaGreatSeatE14
import Derived.Test.YtenimkekacdojaaGreatSeatE15
import Derived.Test.YtenimkekacdojaaGreatSeatE16
/- The rest, run by the kernel. No conditions. -/
namespace Go.Proofs.YtenimkekacdojaaGreat
open Go Go.Ab Go.Fa
set_option maxRecDepth 1000000
set_option maxHeartbeats 0
theorem run3_o : isT (callR (confO S [(7,[e137,e168,e199,e643,e747,e851,e955,e1059,e1163,e1267,e1371,e1475,e1579,e1683,e1787,e1891,e1995,e2099,e2203,e2307,e2623,e4528,e6677,e8830,e11032,e13165,e15314,e17873,e19949,e22082,e24231,e26384,e28586,e30719,e33047,e33160,e33273,e35388,e37541,e39743,e41876,e44362,e46375,e48582,e50723,e52872,e55012,e57219,e59628,e61468,e61572,e61676,e61780,e61884,e61988,e62092,e62196,e62300,e62404,e62508,e62612,e62716,e62820,e62924,e63028,e63132,e63236,e63340,e63444,e63548,e63652,e63756,e63860,e63964,e64068,e64172,e64276,e64380,e64484,e64588,e64692,e64796,e64900,e65004,e65108,e65212,e65316,e65420,e65524])]) (tabO (tab S) [(7,[e137,e168,e199,e643,e747,e851,e955,e1059,e1163,e1267,e1371,e1475,e1579,e1683,e1787,e1891,e1995,e2099,e2203,e2307,e2623,e4528,e6677,e8830,e11032,e13165,e15314,e17873,e19949,e22082,e24231,e26384,e28586,e30719,e33047,e33160,e33273,e35388,e37541,e39743,e41876,e44362,e46375,e48582,e50723,e52872,e55012,e57219,e59628,e61468,e61572,e61676,e61780,e61884,e61988,e62092,e62196,e62300,e62404,e62508,e62612,e62716,e62820,e62924,e63028,e63132,e63236,e63340,e63444,e63548,e63652,e63756,e63860,e63964,e64068,e64172,e64276,e64380,e64484,e64588,e64692,e64796,e64900,e65004,e65108,e65212,e65316,e65420,e65524])]) 2000 200 3 [] FH.empty) = true := by kernel_rfl
theorem run3 : ∃ h', W (conf S) 3 [] H.empty = some (.ret (.one (.bool true)) h') := closedO S_ok (o := [(7,[e137,e168,e199,e643,e747,e851,e955,e1059,e1163,e1267,e1371,e1475,e1579,e1683,e1787,e1891,e1995,e2099,e2203,e2307,e2623,e4528,e6677,e8830,e11032,e13165,e15314,e17873,e19949,e22082,e24231,e26384,e28586,e30719,e33047,e33160,e33273,e35388,e37541,e39743,e41876,e44362,e46375,e48582,e50723,e52872,e55012,e57219,e59628,e61468,e61572,e61676,e61780,e61884,e61988,e62092,e62196,e62300,e62404,e62508,e62612,e62716,e62820,e62924,e63028,e63132,e63236,e63340,e63444,e63548,e63652,e63756,e63860,e63964,e64068,e64172,e64276,e64380,e64484,e64588,e64692,e64796,e64900,e65004,e65108,e65212,e65316,e65420,e65524])]) (orc_cons (es_cons e137_ok (es_cons e168_ok (es_cons e199_ok (es_cons e643_ok (es_cons e747_ok (es_cons e851_ok (es_cons e955_ok (es_cons e1059_ok (es_cons e1163_ok (es_cons e1267_ok (es_cons e1371_ok (es_cons e1475_ok (es_cons e1579_ok (es_cons e1683_ok (es_cons e1787_ok (es_cons e1891_ok (es_cons e1995_ok (es_cons e2099_ok (es_cons e2203_ok (es_cons e2307_ok (es_cons e2623_ok (es_cons e4528_ok (es_cons e6677_ok (es_cons e8830_ok (es_cons e11032_ok (es_cons e13165_ok (es_cons e15314_ok (es_cons e17873_ok (es_cons e19949_ok (es_cons e22082_ok (es_cons e24231_ok (es_cons e26384_ok (es_cons e28586_ok (es_cons e30719_ok (es_cons e33047_ok (es_cons e33160_ok (es_cons e33273_ok (es_cons e35388_ok (es_cons e37541_ok (es_cons e39743_ok (es_cons e41876_ok (es_cons e44362_ok (es_cons e46375_ok (es_cons e48582_ok (es_cons e50723_ok (es_cons e52872_ok (es_cons e55012_ok (es_cons e57219_ok (es_cons e59628_ok (es_cons e61468_ok (es_cons e61572_ok (es_cons e61676_ok (es_cons e61780_ok (es_cons e61884_ok (es_cons e61988_ok (es_cons e62092_ok (es_cons e62196_ok (es_cons e62300_ok (es_cons e62404_ok (es_cons e62508_ok (es_cons e62612_ok (es_cons e62716_ok (es_cons e62820_ok (es_cons e62924_ok (es_cons e63028_ok (es_cons e63132_ok (es_cons e63236_ok (es_cons e63340_ok (es_cons e63444_ok (es_cons e63548_ok (es_cons e63652_ok (es_cons e63756_ok (es_cons e63860_ok (es_cons e63964_ok (es_cons e64068_ok (es_cons e64172_ok (es_cons e64276_ok (es_cons e64380_ok (es_cons e64484_ok (es_cons e64588_ok (es_cons e64692_ok (es_cons e64796_ok (es_cons e64900_ok (es_cons e65004_ok (es_cons e65108_ok (es_cons e65212_ok (es_cons e65316_ok (es_cons e65420_ok (es_cons e65524_ok (es_nil)))))))))))))))))))))))))))))))))))))))))))))))))))))))))))))))))))))))))))))))))))))))))) (orc_nil)) run3_o
end Go.Proofs.YtenimkekacdojaaGreat
