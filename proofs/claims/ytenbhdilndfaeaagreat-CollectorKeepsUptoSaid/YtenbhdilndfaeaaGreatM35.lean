import Derived.Test.YtenbhdilndfaeaaGreatM00
import Derived.Shelf.SlicesG.CompactI
import Derived.Shelf.SlicesG.SearchI
import Derived.Shelf.SortM.Plain
import Derived.Shelf.SortM.SortNone
set_option maxRecDepth 100000
set_option maxHeartbeats 0
set_option linter.all false
namespace Go.Proofs.YtenbhdilndfaeaaGreat
open Go.RowKit Go.Proofs.Tryz
section
open Go.Shelf
def y4:Go.Shelf.Ren:=⟨fun|5=>107|8=>155|7=>154|19=>191|20=>192|10=>183|11=>184|12=>185|13=>186|14=>187|15=>188|16=>159|17=>189|18=>190|30=>209|31=>210|32=>211|33=>212|34=>213|35=>194|40=>220|n=>n,fun|23=>27|25=>2|3=>3|32=>102|22=>27|0=>0|44=>289|46=>291|4=>4|36=>283|35=>282|41=>165|5=>5|9=>9|53=>304|57=>308|63=>316|64=>317|n=>n,fun|n=>n⟩
def C5:Go.Proofs.SlLaysM.n5 prog y4:={
 mixed:=by kernel_rfl
 f5:=⟨f107.name,by decide,func107.trans (Z_ some k_)⟩
 f7:=⟨f154.name,by decide,func154.trans (Z_ some k_)⟩
 f8:=func155.trans (Z_ some k_)
 f10:=⟨f183.name,by decide,func183.trans (Z_ some k_)⟩
 f11:=⟨f184.name,by decide,func184.trans (Z_ some k_)⟩
 f12:=⟨f185.name,by decide,func185.trans (Z_ some k_)⟩
 f13:=⟨f186.name,by decide,func186.trans (Z_ some k_)⟩
 f14:=⟨f187.name,by decide,func187.trans (Z_ some k_)⟩
 f15:=⟨f188.name,by decide,func188.trans (Z_ some k_)⟩
 f16:=⟨f159.name,by decide,func159.trans (Z_ some k_)⟩
 f17:=⟨f189.name,by decide,func189.trans (Z_ some k_)⟩
 f18:=⟨f190.name,by decide,func190.trans (Z_ some k_)⟩
 f19:=func191.trans (Z_ some k_)
 f20:=func192.trans (Z_ some k_)
 f30:=⟨f209.name,by decide,func209.trans (Z_ some k_)⟩
 f31:=func210.trans (Z_ some k_)
 f32:=func211.trans (Z_ some k_)
 f33:=⟨f212.name,by decide,func212.trans (Z_ some k_)⟩
 f34:=⟨f213.name,by decide,func213.trans (Z_ some k_)⟩
 f35:=⟨f194.name,by decide,func194.trans (Z_ some k_)⟩
 f40:=⟨f220.name,by decide,func220.trans (Z_ some k_)⟩
 t0:=underlying0
 a0:=isAgg0
 z0:=sizeOf0
 v0:=zeroValue0
 t3:=underlying3
 a3:=isAgg3
 z3:=sizeOf3
 v3:=zeroValue3
 t4:=underlying4
 a4:=isAgg4
 z4:=sizeOf4
 v4:=zeroValue4
 t5:=underlying5
 a5:=isAgg5
 z5:=sizeOf5
 v5:=zeroValue5
 t9:=underlying9
 a9:=isAgg9
 z9:=sizeOf9
 v9:=zeroValue9
 t22:=underlying27
 a22:=isAgg27
 z22:=sizeOf27
 v22:=zeroValue27
 t23:=underlying27
 a23:=isAgg27
 z23:=sizeOf27
 v23:=zeroValue27
 t25:=underlying2
 a25:=isAgg2
 z25:=sizeOf2
 v25:=zeroValue2
 t32:=underlying102
 a32:=isAgg102
 z32:=sizeOf102
 v32:=zeroValue102
 t35:=underlying282
 a35:=isAgg282
 z35:=sizeOf282
 v35:=zeroValue282
 t36:=underlying283
 a36:=isAgg283
 z36:=sizeOf283
 v36:=zeroValue283
 t41:=underlying165
 a41:=isAgg165
 z41:=sizeOf165
 v41:=zeroValue165
 t44:=underlying289
 a44:=isAgg289
 z44:=sizeOf289
 v44:=zeroValue289
 t46:=underlying291
 a46:=isAgg291
 z46:=sizeOf291
 v46:=zeroValue291
 t53:=underlying304
 a53:=isAgg304
 z53:=sizeOf304
 v53:=zeroValue304
 t57:=underlying308
 a57:=isAgg308
 z57:=sizeOf308
 v57:=zeroValue308
 t63:=underlying316
 a63:=isAgg316
 z63:=sizeOf316
 v63:=zeroValue316
 t64:=underlying317
 a64:=isAgg317
 z64:=sizeOf317
 v64:=zeroValue317}
def zK:Go.Shelf.Ren:=⟨fun|43=>108|n=>n,fun|22=>27|23=>2|3=>3|4=>4|0=>0|n=>n,fun|n=>n⟩
def Dd:Go.Proofs.SlLaysN.n43 prog zK:={
 mixed:=by kernel_rfl
 f43:=⟨f108.name,by decide,func108.trans (Z_ some k_)⟩
 t0:=underlying0
 a0:=isAgg0
 z0:=sizeOf0
 v0:=zeroValue0
 t3:=underlying3
 a3:=isAgg3
 z3:=sizeOf3
 v3:=zeroValue3
 t4:=underlying4
 a4:=isAgg4
 z4:=sizeOf4
 v4:=zeroValue4
 t22:=underlying27
 a22:=isAgg27
 z22:=sizeOf27
 v22:=zeroValue27
 t23:=underlying2
 a23:=isAgg2
 z23:=sizeOf2
 v23:=zeroValue2
 i23:=by kernel_rfl}
def y3:Go.Shelf.Ren:=⟨fun|49=>113|59=>159|60=>160|68=>194|n=>n,fun|22=>27|23=>2|3=>3|4=>4|51=>102|0=>0|n=>n,fun|n=>n⟩
def D_:Go.Proofs.SlLaysN.n49 prog y3:={
 mixed:=by kernel_rfl
 f49:=⟨f113.name,by decide,func113.trans (Z_ some k_)⟩
 f59:=⟨f159.name,by decide,func159.trans (Z_ some k_)⟩
 f60:=⟨f160.name,by decide,func160.trans (Z_ some k_)⟩
 f68:=⟨f194.name,by decide,func194.trans (Z_ some k_)⟩
 t0:=underlying0
 a0:=isAgg0
 z0:=sizeOf0
 v0:=zeroValue0
 t3:=underlying3
 a3:=isAgg3
 z3:=sizeOf3
 v3:=zeroValue3
 t4:=underlying4
 a4:=isAgg4
 z4:=sizeOf4
 v4:=zeroValue4
 t22:=underlying27
 a22:=isAgg27
 z22:=sizeOf27
 v22:=zeroValue27
 t23:=underlying2
 a23:=isAgg2
 z23:=sizeOf2
 v23:=zeroValue2
 t51:=underlying102
 a51:=isAgg102
 z51:=sizeOf102
 v51:=zeroValue102}
end
