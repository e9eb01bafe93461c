/- A part of a proof over the abstract machine. No conditions. -/
import Derived.Test.YtnmbbekfnaaggaaGreatSeatD1
/- Calls that the kernel ran apart. No conditions. -/
namespace Go.Proofs.YtnmbbekfnaaggaaGreat
open Go Go.Ab Go.Fa
set_option maxRecDepth 1000000
set_option maxHeartbeats 0
theorem e19732_run : entryR S [] 2000 200 13 e19732 = true := by kernel_rfl
theorem e19732_ok : EntryOk (conf S) 13 e19732 := entry_ok S_ok (o := []) (orc_nil) e19732_run
theorem e19830_run : entryR S [] 2000 200 14 e19830 = true := by kernel_rfl
theorem e19830_ok : EntryOk (conf S) 14 e19830 := entry_ok S_ok (o := []) (orc_nil) e19830_run
theorem e19896_run : entryR S [] 2000 200 12 e19896 = true := by kernel_rfl
theorem e19896_ok : EntryOk (conf S) 12 e19896 := entry_ok S_ok (o := []) (orc_nil) e19896_run
theorem e19916_run : entryR S [] 2000 200 13 e19916 = true := by kernel_rfl
theorem e19916_ok : EntryOk (conf S) 13 e19916 := entry_ok S_ok (o := []) (orc_nil) e19916_run
theorem e19979_run : entryR S [] 2000 200 14 e19979 = true := by kernel_rfl
theorem e19979_ok : EntryOk (conf S) 14 e19979 := entry_ok S_ok (o := []) (orc_nil) e19979_run
theorem e20028_run : entryR S [] 2000 200 12 e20028 = true := by kernel_rfl
theorem e20028_ok : EntryOk (conf S) 12 e20028 := entry_ok S_ok (o := []) (orc_nil) e20028_run
theorem e20049_run : entryR S [] 2000 200 13 e20049 = true := by kernel_rfl
theorem e20049_ok : EntryOk (conf S) 13 e20049 := entry_ok S_ok (o := []) (orc_nil) e20049_run
theorem e20050_run : entryR S [] 2000 200 14 e20050 = true := by kernel_rfl
theorem e20050_ok : EntryOk (conf S) 14 e20050 := entry_ok S_ok (o := []) (orc_nil) e20050_run
theorem e20068_run : entryR S [] 2000 200 12 e20068 = true := by kernel_rfl
theorem e20068_ok : EntryOk (conf S) 12 e20068 := entry_ok S_ok (o := []) (orc_nil) e20068_run
theorem e20110_run : entryR S [] 2000 200 13 e20110 = true := by kernel_rfl
theorem e20110_ok : EntryOk (conf S) 13 e20110 := entry_ok S_ok (o := []) (orc_nil) e20110_run
theorem e20194_run : entryR S [] 2000 200 14 e20194 = true := by kernel_rfl
theorem e20194_ok : EntryOk (conf S) 14 e20194 := entry_ok S_ok (o := []) (orc_nil) e20194_run
theorem e20249_run : entryR S [] 2000 200 12 e20249 = true := by kernel_rfl
theorem e20249_ok : EntryOk (conf S) 12 e20249 := entry_ok S_ok (o := []) (orc_nil) e20249_run
theorem e20282_run : entryR S [] 2000 200 13 e20282 = true := by kernel_rfl
theorem e20282_ok : EntryOk (conf S) 13 e20282 := entry_ok S_ok (o := []) (orc_nil) e20282_run
theorem e20357_run : entryR S [] 2000 200 14 e20357 = true := by kernel_rfl
theorem e20357_ok : EntryOk (conf S) 14 e20357 := entry_ok S_ok (o := []) (orc_nil) e20357_run
theorem e20408_run : entryR S [] 2000 200 12 e20408 = true := by kernel_rfl
theorem e20408_ok : EntryOk (conf S) 12 e20408 := entry_ok S_ok (o := []) (orc_nil) e20408_run
theorem e20461_run : entryR S [] 2000 200 13 e20461 = true := by kernel_rfl
theorem e20461_ok : EntryOk (conf S) 13 e20461 := entry_ok S_ok (o := []) (orc_nil) e20461_run
theorem e20566_run : entryR S [] 2000 200 14 e20566 = true := by kernel_rfl
theorem e20566_ok : EntryOk (conf S) 14 e20566 := entry_ok S_ok (o := []) (orc_nil) e20566_run
theorem e20633_run : entryR S [] 2000 200 12 e20633 = true := by kernel_rfl
theorem e20633_ok : EntryOk (conf S) 12 e20633 := entry_ok S_ok (o := []) (orc_nil) e20633_run
theorem e20662_run : entryR S [] 2000 200 13 e20662 = true := by kernel_rfl
theorem e20662_ok : EntryOk (conf S) 13 e20662 := entry_ok S_ok (o := []) (orc_nil) e20662_run
theorem e20737_run : entryR S [] 2000 200 14 e20737 = true := by kernel_rfl
theorem e20737_ok : EntryOk (conf S) 14 e20737 := entry_ok S_ok (o := []) (orc_nil) e20737_run
theorem e20791_run : entryR S [] 2000 200 12 e20791 = true := by kernel_rfl
theorem e20791_ok : EntryOk (conf S) 12 e20791 := entry_ok S_ok (o := []) (orc_nil) e20791_run
theorem e20901_run : entryR S [] 2000 200 13 e20901 = true := by kernel_rfl
theorem e20901_ok : EntryOk (conf S) 13 e20901 := entry_ok S_ok (o := []) (orc_nil) e20901_run
theorem e21054_run : entryR S [] 2000 200 14 e21054 = true := by kernel_rfl
theorem e21054_ok : EntryOk (conf S) 14 e21054 := entry_ok S_ok (o := []) (orc_nil) e21054_run
theorem e21159_run : entryR S [] 2000 200 12 e21159 = true := by kernel_rfl
theorem e21159_ok : EntryOk (conf S) 12 e21159 := entry_ok S_ok (o := []) (orc_nil) e21159_run
theorem e21266_run : entryR S [] 2000 200 13 e21266 = true := by kernel_rfl
theorem e21266_ok : EntryOk (conf S) 13 e21266 := entry_ok S_ok (o := []) (orc_nil) e21266_run
theorem e21417_run : entryR S [] 2000 200 14 e21417 = true := by kernel_rfl
theorem e21417_ok : EntryOk (conf S) 14 e21417 := entry_ok S_ok (o := []) (orc_nil) e21417_run
theorem e21522_run : entryR S [] 2000 200 12 e21522 = true := by kernel_rfl
theorem e21522_ok : EntryOk (conf S) 12 e21522 := entry_ok S_ok (o := []) (orc_nil) e21522_run
theorem e21542_run : entryR S [] 2000 200 13 e21542 = true := by kernel_rfl
theorem e21542_ok : EntryOk (conf S) 13 e21542 := entry_ok S_ok (o := []) (orc_nil) e21542_run
theorem e21605_run : entryR S [] 2000 200 14 e21605 = true := by kernel_rfl
theorem e21605_ok : EntryOk (conf S) 14 e21605 := entry_ok S_ok (o := []) (orc_nil) e21605_run
theorem e21654_run : entryR S [] 2000 200 12 e21654 = true := by kernel_rfl
theorem e21654_ok : EntryOk (conf S) 12 e21654 := entry_ok S_ok (o := []) (orc_nil) e21654_run
theorem e21675_run : entryR S [] 2000 200 13 e21675 = true := by kernel_rfl
theorem e21675_ok : EntryOk (conf S) 13 e21675 := entry_ok S_ok (o := []) (orc_nil) e21675_run
theorem e21676_run : entryR S [] 2000 200 14 e21676 = true := by kernel_rfl
theorem e21676_ok : EntryOk (conf S) 14 e21676 := entry_ok S_ok (o := []) (orc_nil) e21676_run
theorem e21694_run : entryR S [] 2000 200 12 e21694 = true := by kernel_rfl
theorem e21694_ok : EntryOk (conf S) 12 e21694 := entry_ok S_ok (o := []) (orc_nil) e21694_run
theorem e21736_run : entryR S [] 2000 200 13 e21736 = true := by kernel_rfl
theorem e21736_ok : EntryOk (conf S) 13 e21736 := entry_ok S_ok (o := []) (orc_nil) e21736_run
theorem e21820_run : entryR S [] 2000 200 14 e21820 = true := by kernel_rfl
theorem e21820_ok : EntryOk (conf S) 14 e21820 := entry_ok S_ok (o := []) (orc_nil) e21820_run
theorem e21875_run : entryR S [] 2000 200 12 e21875 = true := by kernel_rfl
theorem e21875_ok : EntryOk (conf S) 12 e21875 := entry_ok S_ok (o := []) (orc_nil) e21875_run
theorem e21908_run : entryR S [] 2000 200 13 e21908 = true := by kernel_rfl
theorem e21908_ok : EntryOk (conf S) 13 e21908 := entry_ok S_ok (o := []) (orc_nil) e21908_run
theorem e21983_run : entryR S [] 2000 200 14 e21983 = true := by kernel_rfl
theorem e21983_ok : EntryOk (conf S) 14 e21983 := entry_ok S_ok (o := []) (orc_nil) e21983_run
theorem e22034_run : entryR S [] 2000 200 12 e22034 = true := by kernel_rfl
theorem e22034_ok : EntryOk (conf S) 12 e22034 := entry_ok S_ok (o := []) (orc_nil) e22034_run
theorem e22087_run : entryR S [] 2000 200 13 e22087 = true := by kernel_rfl
theorem e22087_ok : EntryOk (conf S) 13 e22087 := entry_ok S_ok (o := []) (orc_nil) e22087_run
theorem e22192_run : entryR S [] 2000 200 14 e22192 = true := by kernel_rfl
theorem e22192_ok : EntryOk (conf S) 14 e22192 := entry_ok S_ok (o := []) (orc_nil) e22192_run
theorem e22259_run : entryR S [] 2000 200 12 e22259 = true := by kernel_rfl
theorem e22259_ok : EntryOk (conf S) 12 e22259 := entry_ok S_ok (o := []) (orc_nil) e22259_run
theorem e22288_run : entryR S [] 2000 200 13 e22288 = true := by kernel_rfl
theorem e22288_ok : EntryOk (conf S) 13 e22288 := entry_ok S_ok (o := []) (orc_nil) e22288_run
theorem e22363_run : entryR S [] 2000 200 14 e22363 = true := by kernel_rfl
theorem e22363_ok : EntryOk (conf S) 14 e22363 := entry_ok S_ok (o := []) (orc_nil) e22363_run
theorem e22417_run : entryR S [] 2000 200 12 e22417 = true := by kernel_rfl
theorem e22417_ok : EntryOk (conf S) 12 e22417 := entry_ok S_ok (o := []) (orc_nil) e22417_run
theorem e22492_run : entryR S [] 2000 200 13 e22492 = true := by kernel_rfl
theorem e22492_ok : EntryOk (conf S) 13 e22492 := entry_ok S_ok (o := []) (orc_nil) e22492_run
theorem e22618_run : entryR S [] 2000 200 14 e22618 = true := by kernel_rfl
theorem e22618_ok : EntryOk (conf S) 14 e22618 := entry_ok S_ok (o := []) (orc_nil) e22618_run
theorem e22699_run : entryR S [] 2000 200 12 e22699 = true := by kernel_rfl
theorem e22699_ok : EntryOk (conf S) 12 e22699 := entry_ok S_ok (o := []) (orc_nil) e22699_run
theorem e22766_run : entryR S [] 2000 200 13 e22766 = true := by kernel_rfl
theorem e22766_ok : EntryOk (conf S) 13 e22766 := entry_ok S_ok (o := []) (orc_nil) e22766_run
theorem e22882_run : entryR S [] 2000 200 14 e22882 = true := by kernel_rfl
theorem e22882_ok : EntryOk (conf S) 14 e22882 := entry_ok S_ok (o := []) (orc_nil) e22882_run
theorem e22957_run : entryR S [] 2000 200 12 e22957 = true := by kernel_rfl
theorem e22957_ok : EntryOk (conf S) 12 e22957 := entry_ok S_ok (o := []) (orc_nil) e22957_run
theorem e22977_run : entryR S [] 2000 200 13 e22977 = true := by kernel_rfl
theorem e22977_ok : EntryOk (conf S) 13 e22977 := entry_ok S_ok (o := []) (orc_nil) e22977_run
theorem e23040_run : entryR S [] 2000 200 14 e23040 = true := by kernel_rfl
theorem e23040_ok : EntryOk (conf S) 14 e23040 := entry_ok S_ok (o := []) (orc_nil) e23040_run
theorem e23089_run : entryR S [] 2000 200 12 e23089 = true := by kernel_rfl
theorem e23089_ok : EntryOk (conf S) 12 e23089 := entry_ok S_ok (o := []) (orc_nil) e23089_run
theorem e23110_run : entryR S [] 2000 200 13 e23110 = true := by kernel_rfl
theorem e23110_ok : EntryOk (conf S) 13 e23110 := entry_ok S_ok (o := []) (orc_nil) e23110_run
theorem e23111_run : entryR S [] 2000 200 14 e23111 = true := by kernel_rfl
theorem e23111_ok : EntryOk (conf S) 14 e23111 := entry_ok S_ok (o := []) (orc_nil) e23111_run
theorem e23129_run : entryR S [] 2000 200 12 e23129 = true := by kernel_rfl
theorem e23129_ok : EntryOk (conf S) 12 e23129 := entry_ok S_ok (o := []) (orc_nil) e23129_run
theorem e23171_run : entryR S [] 2000 200 13 e23171 = true := by kernel_rfl
theorem e23171_ok : EntryOk (conf S) 13 e23171 := entry_ok S_ok (o := []) (orc_nil) e23171_run
theorem e23255_run : entryR S [] 2000 200 14 e23255 = true := by kernel_rfl
theorem e23255_ok : EntryOk (conf S) 14 e23255 := entry_ok S_ok (o := []) (orc_nil) e23255_run
theorem e23310_run : entryR S [] 2000 200 12 e23310 = true := by kernel_rfl
theorem e23310_ok : EntryOk (conf S) 12 e23310 := entry_ok S_ok (o := []) (orc_nil) e23310_run
theorem e23343_run : entryR S [] 2000 200 13 e23343 = true := by kernel_rfl
theorem e23343_ok : EntryOk (conf S) 13 e23343 := entry_ok S_ok (o := []) (orc_nil) e23343_run
theorem e23418_run : entryR S [] 2000 200 14 e23418 = true := by kernel_rfl
theorem e23418_ok : EntryOk (conf S) 14 e23418 := entry_ok S_ok (o := []) (orc_nil) e23418_run
theorem e23469_run : entryR S [] 2000 200 12 e23469 = true := by kernel_rfl
theorem e23469_ok : EntryOk (conf S) 12 e23469 := entry_ok S_ok (o := []) (orc_nil) e23469_run
theorem e23522_run : entryR S [] 2000 200 13 e23522 = true := by kernel_rfl
theorem e23522_ok : EntryOk (conf S) 13 e23522 := entry_ok S_ok (o := []) (orc_nil) e23522_run
theorem e23627_run : entryR S [] 2000 200 14 e23627 = true := by kernel_rfl
theorem e23627_ok : EntryOk (conf S) 14 e23627 := entry_ok S_ok (o := []) (orc_nil) e23627_run
theorem e23694_run : entryR S [] 2000 200 12 e23694 = true := by kernel_rfl
theorem e23694_ok : EntryOk (conf S) 12 e23694 := entry_ok S_ok (o := []) (orc_nil) e23694_run
theorem e23723_run : entryR S [] 2000 200 13 e23723 = true := by kernel_rfl
theorem e23723_ok : EntryOk (conf S) 13 e23723 := entry_ok S_ok (o := []) (orc_nil) e23723_run
theorem e23798_run : entryR S [] 2000 200 14 e23798 = true := by kernel_rfl
theorem e23798_ok : EntryOk (conf S) 14 e23798 := entry_ok S_ok (o := []) (orc_nil) e23798_run
theorem e23852_run : entryR S [] 2000 200 12 e23852 = true := by kernel_rfl
theorem e23852_ok : EntryOk (conf S) 12 e23852 := entry_ok S_ok (o := []) (orc_nil) e23852_run
theorem e23893_run : entryR S [] 2000 200 13 e23893 = true := by kernel_rfl
theorem e23893_ok : EntryOk (conf S) 13 e23893 := entry_ok S_ok (o := []) (orc_nil) e23893_run
theorem e23980_run : entryR S [] 2000 200 14 e23980 = true := by kernel_rfl
theorem e23980_ok : EntryOk (conf S) 14 e23980 := entry_ok S_ok (o := []) (orc_nil) e23980_run
theorem e24041_run : entryR S [] 2000 200 12 e24041 = true := by kernel_rfl
theorem e24041_ok : EntryOk (conf S) 12 e24041 := entry_ok S_ok (o := []) (orc_nil) e24041_run
theorem e24095_run : entryR S [] 2000 200 13 e24095 = true := by kernel_rfl
theorem e24095_ok : EntryOk (conf S) 13 e24095 := entry_ok S_ok (o := []) (orc_nil) e24095_run
theorem e24193_run : entryR S [] 2000 200 14 e24193 = true := by kernel_rfl
theorem e24193_ok : EntryOk (conf S) 14 e24193 := entry_ok S_ok (o := []) (orc_nil) e24193_run
theorem e24259_run : entryR S [] 2000 200 12 e24259 = true := by kernel_rfl
theorem e24259_ok : EntryOk (conf S) 12 e24259 := entry_ok S_ok (o := []) (orc_nil) e24259_run
end Go.Proofs.YtnmbbekfnaaggaaGreat
