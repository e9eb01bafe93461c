/- A part of a proof over the abstract machine. No conditions. -/
import Derived.Test.YtenimkekacdojaaGreatSeatD1
/- What stands in the heap where calls are run apart. No conditions. -/
namespace Go.Proofs.YtenimkekacdojaaGreat
open Go Go.Ab Go.Fa
set_option maxRecDepth 1000000
set_option maxHeartbeats 0
def l64588 : List (Nat × Blk) := [b1874,b1715,b1716,b1736,b1875,b1740,b1743,b1748,b1751,b1876]
def e64588 : Entry := ⟨[.one (.ptr 61 0 0)],⟨50918,l64588⟩,.tup [],⟨50948,mrg 100000 [b1877,b1878,b1879] l64588⟩⟩
def l64692 : List (Nat × Blk) := [b1877,b1715,b1716,b1736,b1878,b1740,b1743,b1748,b1751,b1879]
def e64692 : Entry := ⟨[.one (.ptr 61 0 0)],⟨50948,l64692⟩,.tup [],⟨50978,mrg 100000 [b1880,b1881,b1882] l64692⟩⟩
def l64796 : List (Nat × Blk) := [b1880,b1715,b1716,b1736,b1881,b1740,b1743,b1748,b1751,b1882]
def e64796 : Entry := ⟨[.one (.ptr 61 0 0)],⟨50978,l64796⟩,.tup [],⟨51008,mrg 100000 [b1883,b1884,b1885] l64796⟩⟩
def l64900 : List (Nat × Blk) := [b1883,b1715,b1716,b1736,b1884,b1740,b1743,b1748,b1751,b1885]
def e64900 : Entry := ⟨[.one (.ptr 61 0 0)],⟨51008,l64900⟩,.tup [],⟨51038,mrg 100000 [b1886,b1887,b1888] l64900⟩⟩
def l65004 : List (Nat × Blk) := [b1886,b1715,b1716,b1736,b1887,b1740,b1743,b1748,b1751,b1888]
def e65004 : Entry := ⟨[.one (.ptr 61 0 0)],⟨51038,l65004⟩,.tup [],⟨51068,mrg 100000 [b1889,b1890,b1891] l65004⟩⟩
def l65108 : List (Nat × Blk) := [b1889,b1715,b1716,b1736,b1890,b1740,b1743,b1748,b1751,b1891]
def e65108 : Entry := ⟨[.one (.ptr 61 0 0)],⟨51068,l65108⟩,.tup [],⟨51098,mrg 100000 [b1892,b1893,b1894] l65108⟩⟩
def l65212 : List (Nat × Blk) := [b1892,b1715,b1716,b1736,b1893,b1740,b1743,b1748,b1751,b1894]
def e65212 : Entry := ⟨[.one (.ptr 61 0 0)],⟨51098,l65212⟩,.tup [],⟨51128,mrg 100000 [b1895,b1896,b1897] l65212⟩⟩
def l65316 : List (Nat × Blk) := [b1895,b1715,b1716,b1736,b1896,b1740,b1743,b1748,b1751,b1897]
def e65316 : Entry := ⟨[.one (.ptr 61 0 0)],⟨51128,l65316⟩,.tup [],⟨51158,mrg 100000 [b1898,b1899,b1900] l65316⟩⟩
def l65420 : List (Nat × Blk) := [b1898,b1715,b1716,b1736,b1899,b1740,b1743,b1748,b1751,b1900]
def e65420 : Entry := ⟨[.one (.ptr 61 0 0)],⟨51158,l65420⟩,.tup [],⟨51188,mrg 100000 [b1901,b1902,b1903] l65420⟩⟩
def l65524 : List (Nat × Blk) := [b1901,b1715,b1716,b1736,b1902,b1740,b1743,b1748,b1751,b1903]
def e65524 : Entry := ⟨[.one (.ptr 61 0 0)],⟨51188,l65524⟩,.tup [],⟨51218,mrg 100000 [b1904,b1905,b1906] l65524⟩⟩
end Go.Proofs.YtenimkekacdojaaGreat
