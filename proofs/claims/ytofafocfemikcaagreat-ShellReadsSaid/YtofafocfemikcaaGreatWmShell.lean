/- A part of a proof over the abstract machine. No conditions. -/
import Derived.Test.YtofafocfemikcaaGreatAb5
namespace Wm
open Go.Ab
structure Draw where
 kind:Int
 group:Int
 n:Int
 client:Int
 o:KO
 p:KP
structure Raw where
 c:Config
 l:Option (List Draw)
 items:Option (List Item)
 tame:Bool
def encDraw (d:Draw):List AS:=[ii d.kind,ii d.group,ii d.n,ii d.client,ii d.o.kind,ii d.o.row,ii d.o.hi,ii d.o.most,ii d.o.col,.bool d.o.has,.bool d.o.want,.bool d.o.v.text,ii d.o.v.n,.flt d.o.v.x,bs d.o.v.b,sl 7 encKC d.o.l,ii d.p.do_,ii d.p.at_,ii d.p.to]
theorem len_draw (d:Draw):(encDraw d).length = 19:=rfl
@[simp] theorem pure_draw (d:Draw):pureL false (encDraw d) = true:=by simp [encDraw,pureL,pureS]
@[simp] theorem pure_draws (o:Option (List Draw)):pureS false (sl 19 encDraw o) = true:=pureS_sl pure_draw o
end Wm
