/-
  A part of the proof of the laws.
-/
import Derived.Test.YthajckhlgoonbaaGreatDoorIn
import Derived.Test.YthajckhlgoonbaaGreatDoorLx
import Derived.Test.YthajckhlgoonbaaGreatDoorAmB
import Derived.Test.YthajckhlgoonbaaGreatDoorSh
section
set_option maxHeartbeats 40000000
set_option maxRecDepth 100000
namespace Go.Proofs.C06
open Go Go.RowKit Go.Vc Go.Am
def libs22:List Con:=[zgf,(zfq 4000),(zc1 4000),(zmu 4000),(zh4 4000),(Qb 4000),(Kx 4000),(zlw 4000),(Wh 4000),(XR 4000),(Kq 4000),(Kw 4000),(zge 4000),(Wy 4000),(Kv 4000),(Ku 4000),(zhB 4000),(zf4 4000),(zdg 4000),(za1 4000),(Yq 4000),(XS 4000),(zhz 4000),(Kt 4000),(Ks 4000),(zh5 4000),(Wl 4000)]
def zwe:List RowN:=[⟨7,[],[10,13,17,19,20,23,24,25],[]⟩,⟨10,[],[26,27,28,36,53,62,63,64,71,72,95,108,114,125,146,168,176,184,185,186,187,188,189,190,191],[]⟩,⟨13,[0],[10,15],[31]⟩,⟨17,[],[24],[]⟩,⟨19,[],[22,40],[]⟩,⟨20,[],[22],[]⟩,⟨23,[],[],[]⟩,⟨24,[],[38],[]⟩,⟨25,[],[],[]⟩,⟨26,[],[16],[]⟩,⟨27,[],[],[]⟩,⟨28,[],[28,36,53,62,63,64,71,72,95,108,114,125,146,168,176,184,185,186,187,188,189,190,191],[]⟩,⟨15,[],[16,29,30,35,36],[]⟩,⟨31,[],[],[]⟩,⟨22,[],[45,46,47,48,49],[]⟩,⟨40,[],[22],[]⟩,⟨38,[1],[61,62,63,64,28,36,53,71,72,95,108,114,125,146,168,176,184,185,186,187,188,189,190,191],[]⟩,⟨16,[],[37,38],[]⟩,⟨29,[],[30,50,51,52],[]⟩,⟨30,[],[16,43,53,55,56,57,28,36,62,63,64,71,72,95,108,114,125,146,168,176,184,185,186,187,188,189,190,191],[31]⟩,⟨35,[],[28,36,53,62,63,64,71,72,95,108,114,125,146,168,176,184,185,186,187,188,189,190,191],[]⟩,⟨36,[],[],[]⟩,⟨45,[],[70,71,72],[]⟩,⟨46,[],[73,74,75],[]⟩,⟨47,[],[76,77,78],[]⟩,⟨48,[],[46,79],[]⟩,⟨49,[],[80,81],[]⟩,⟨61,[2,3,4],[100,101,102,28,36,53,62,63,64,71,72,95,108,114,125,146,168,176,184,185,186,187,188,189,190,191],[]⟩,⟨62,[5],[101,105],[]⟩,⟨63,[1,6,7,8,9,10],[108,28,36,53,62,63,64,71,72,95,114,125,146,168,176,184,185,186,187,188,189,190,191],[]⟩,⟨64,[1,11],[113,114,116,117,118],[]⟩,⟨37,[1],[60],[]⟩,⟨50,[],[51,82,83],[]⟩,⟨51,[],[],[]⟩,⟨52,[],[16,43,57,84,85,86,87,88],[]⟩,⟨43,[],[65,66,67,68],[31]⟩,⟨53,[12,13],[],[]⟩,⟨55,[6,14],[],[]⟩,⟨56,[],[73,79,93,94,28,36,53,62,63,64,71,72,95,108,114,125,146,168,176,184,185,186,187,188,189,190,191],[31]⟩,⟨57,[],[65,95,96,28,36,53,62,63,64,71,72,108,114,125,146,168,176,184,185,186,187,188,189,190,191],[31]⟩,⟨70,[],[127],[]⟩,⟨71,[],[16],[]⟩,⟨72,[],[],[]⟩,⟨73,[],[16],[]⟩,⟨74,[],[94,28,36,53,62,63,64,71,72,95,108,114,125,146,168,176,184,185,186,187,188,189,190,191],[]⟩,⟨75,[],[119,128],[]⟩,⟨76,[],[93],[]⟩,⟨77,[2],[129],[]⟩,⟨78,[],[130],[]⟩,⟨79,[],[122,131],[]⟩,⟨80,[],[132],[]⟩,⟨81,[],[],[]⟩,⟨100,[15,16],[101,105],[]⟩,⟨101,[],[146],[]⟩,⟨102,[17,18],[],[]⟩,⟨105,[],[28,36,53,62,63,64,71,72,95,108,114,125,146,168,176,184,185,186,187,188,189,190,191],[]⟩,⟨108,[],[101,105],[]⟩,⟨113,[3,4,19],[102,149,162,164,165,166,28,36,53,62,63,64,71,72,95,108,114,125,146,168,176,184,185,186,187,188,189,190,191],[]⟩,⟨114,[20],[],[]⟩,⟨116,[],[105,168],[]⟩,⟨117,[],[101,105,169],[]⟩,⟨118,[],[101,169,28,36,53,62,63,64,71,72,95,108,114,125,146,168,176,184,185,186,187,188,189,190,191],[]⟩,⟨60,[],[],[]⟩,⟨82,[2,7,21],[134],[31]⟩,⟨83,[2],[],[31]⟩,⟨84,[],[],[]⟩,⟨85,[2],[135],[]⟩,⟨86,[22],[46,75,134,136],[]⟩,⟨87,[],[56,66,67],[]⟩,⟨88,[],[46,79],[]⟩,⟨65,[],[16],[]⟩,⟨66,[2,22],[93,119],[]⟩,⟨67,[],[75,121,122],[]⟩,⟨68,[12,13,22],[79,113,123,124,125,126],[]⟩,⟨93,[],[119,128],[]⟩,⟨94,[],[141],[]⟩,⟨95,[],[],[]⟩,⟨96,[],[142],[]⟩,⟨127,[],[28,36,53,62,63,64,71,72,95,108,114,125,146,168,176,184,185,186,187,188,189,190,191],[]⟩,⟨119,[2,8,23],[],[]⟩,⟨128,[22],[],[]⟩,⟨129,[2],[],[]⟩,⟨130,[],[],[]⟩,⟨122,[2],[66],[]⟩,⟨131,[22],[121,122],[]⟩,⟨132,[],[],[]⟩,⟨146,[24],[],[]⟩,⟨149,[17,18,25],[],[]⟩,⟨162,[],[204],[]⟩,⟨164,[17,18],[205],[]⟩,⟨165,[],[],[]⟩,⟨166,[17,18],[],[]⟩,⟨168,[],[],[]⟩,⟨169,[],[101,105],[]⟩,⟨134,[],[175,176],[]⟩,⟨135,[],[],[]⟩,⟨136,[],[65,68,75,123,177,178],[]⟩,⟨121,[],[93],[]⟩,⟨123,[1,11],[],[]⟩,⟨124,[24],[171],[]⟩,⟨125,[],[],[]⟩,⟨126,[2],[96,171,172,173],[]⟩,⟨141,[],[184,185,186,187,188,189,190,191],[]⟩,⟨142,[],[],[]⟩,⟨204,[],[],[]⟩,⟨205,[],[222],[]⟩,⟨175,[],[28,36,53,62,63,64,71,72,95,108,114,125,146,168,176,184,185,186,187,188,189,190,191],[]⟩,⟨176,[],[],[]⟩,⟨177,[],[171],[]⟩,⟨178,[],[],[]⟩,⟨171,[],[],[]⟩,⟨172,[],[173],[]⟩,⟨173,[],[207],[]⟩,⟨184,[22,24],[213],[]⟩,⟨185,[],[213],[]⟩,⟨186,[22],[],[]⟩,⟨187,[],[],[]⟩,⟨188,[],[],[]⟩,⟨189,[],[],[]⟩,⟨190,[22],[],[]⟩,⟨191,[],[],[]⟩,⟨222,[],[],[]⟩,⟨207,[26],[],[]⟩,⟨213,[],[],[]⟩]
def znb:List RunRow:=RowN.rows libs22 zwe
def zrI:List FuncId:=[31]
def zxD(g:FuncId):Bool:=Am.memN g []
theorem zkL:znb.all RunRow.good=true:=by kernel_rfl
theorem zrz:znb.all (RunRow.quietAll zrI)=true:=by kernel_rfl
def zw3(ms:List Mm)(h:ms.all (Mm.good zrI)=true):RunW:=RunRow.runW znb zrI zxD 4000 zkL zrz ms h
end Go.Proofs.C06
end
section
set_option maxRecDepth 100000
set_option maxHeartbeats 40000000
namespace Go.Proofs.C06
open Go Go.RowKit Go.Vc Go.Am
def Zl:AV:=.int .u8 (0)
def jM:AV:=.int .i64 (2)
def zK:AV:=.int .i64 (0)
def zo:AV:=.bool false
def zhn:AV:=.agg [.int .u8 (5),Zl,.str [90,57],jM,zK,zo,zo,zo,zo,zo,jM]
def Xa:Mm:=⟨64,[.str [90,57]],[],⟨.tup [zhn,.bool true],[]⟩⟩
def qV:AV:=.int .i64 (1)
def yb:AV:=.int .i64 (-1)
def zhm:AV:=.int .i64 (3)
def Wc:AV:=.int .u8 (4)
def zaF:AV:=.str [57,57]
def WK:Option AO:=some (.vals 47 22 [.agg [.str [71],qV,yb,Zl,Zl,.str [],zK,zK,zo,zo,zo,zo,zo,.int .i64 (10),zK,qV,qV,yb,yb,yb,yb,.nils],.agg [.str [65],jM,zK,.int .u8 (2),Zl,.str [88,88],zK,zK,zo,zo,zo,zo,zo,jM,zK,qV,qV,yb,yb,yb,yb,.nils],.agg [.str [84],jM,zK,Zl,Zl,.str [],zK,zK,zo,zo,zo,zo,zo,zhm,jM,jM,qV,yb,yb,yb,yb,.nils],.agg [.str [78],zhm,jM,Wc,Zl,zaF,jM,zK,zo,zo,zo,zo,zo,jM,jM,qV,qV,yb,yb,yb,yb,.nils],.agg [.str [70,73,76,76,69,82],zhm,jM,.int .u8 (2),Zl,.str [88],zK,zK,zo,zo,zo,zo,zo,qV,.int .i64 (4),qV,qV,yb,yb,yb,yb,.nils],.agg [.str [90],jM,zK,.int .u8 (5),Zl,.str [90,57],jM,zK,zo,zo,zo,zo,zo,jM,.int .i64 (8),qV,qV,yb,yb,yb,yb,.nils]])
def ziZ:Mm:=⟨26,[.rw 0,qV],[WK],⟨.bool true,[WK]⟩⟩
def zeY:AV:=.agg [Wc,Zl,zaF,jM,zK,zo,zo,zo,zo,zo,jM]
def yG:Mm:=⟨16,[zeY],[],⟨zK,[]⟩⟩
def ziY:Mm:=⟨26,[.rw 0,.int .i64 (5)],[WK],⟨.bool true,[WK]⟩⟩
def zfb:Mm:=⟨10,[.agg [.rw 0,.int .i64 (10)],zK],[WK],⟨.tup [.rov false 2 [.agg [qV,zK],.agg [zhm,jM],.agg [zhm,.int .i64 (5)],.agg [.int .i64 (5),.int .i64 (8)]],zK],[WK]⟩⟩
def zrN:AV:=.agg [.int .u8 (2),Zl,.str [88,88],zK,zK,zo,zo,zo,zo,zo,jM]
def ziX:Mm:=⟨15,[zrN,.nils],[],⟨.tup [.rob true [32,32],.bool true,zK],[]⟩⟩
def ziW:Mm:=⟨30,[.int .u8 (48),zeY],[],⟨.tup [.rob true [48,48],zK],[]⟩⟩
def zrM:List AV:=[.agg [zo,.str [48],zK],zhn]
def ziV:Mm:=⟨68,zrM,[],⟨.rob false [32,48],[]⟩⟩
def ziU:Mm:=⟨43,zrM,[],⟨.tup [.rob true [32,48],zK],[]⟩⟩
def ziT:Mm:=⟨30,[.int .u8 (48),zhn],[],⟨.tup [.rob true [32,48],zK],[]⟩⟩
def zef:Mm:=⟨15,[zhn,.nils],[],⟨.tup [.rob true [32,48],.bool true,zK],[]⟩⟩
def zrL:AV:=.agg [Wc,Zl,.str [57],qV,zK,zo,zo,zo,zo,zo,qV,.rob true [55]]
def zee:Mm:=⟨46,[zrL],[],⟨.tup [.agg [zo,.str [55],zK],zK],[]⟩⟩
def zed:Mm:=⟨56,[.agg [zo,.str [55],zK],zeY],[],⟨.tup [.rob true [48,55],zK],[]⟩⟩
def zec:Mm:=⟨52,[zrL,zeY],[],⟨.tup [.rob true [48,55],zK],[]⟩⟩
def znj:Option AO:=some (.vals 93 6 [.agg [Wc,.int .u8 (2),.str [55],zK,zK,zo]])
def zeb:Mm:=⟨15,[zhn,.rw 0],[znj],⟨.tup [.nils,zo,zK],[znj]⟩⟩
def zrK:Heap:=[WK,some (.bytes 5 [42,42,42,42,42,42,42,42,42,42]),znj]
def zea:Mm:=⟨13,[.agg [.rw 0,.int .i64 (10)],zK,.rw 1,.rw 2],zrK,⟨.tup [.rob true [42,42,48,55,42,48,55,42,42,42],zK],zrK⟩⟩
def WJ:AV:=.agg [Wc,Zl,zaF,jM,zK,zo,zo,zo,zo,zo,jM,.rob false [48,53]]
def zd9:Mm:=⟨22,[WJ,WJ],[],⟨.tup [zK,zK],[]⟩⟩
def ziD:AV:=.agg [Wc,Zl,zaF,jM,zK,zo,zo,zo,zo,zo,jM,.rob false [48,51]]
def zb6:AV:=.tup [yb,zK]
def zd8:Mm:=⟨22,[ziD,WJ],[],⟨zb6,[]⟩⟩
def zni:AV:=.agg [Wc,Zl,zaF,jM,zK,zo,zo,zo,zo,zo,jM,.rob false [48,52]]
def zd7:Mm:=⟨22,[WJ,zni],[],⟨.tup [qV,zK],[]⟩⟩
def zd6:Mm:=⟨22,[ziD,zni],[],⟨zb6,[]⟩⟩
def znh:AV:=.agg [Wc,Zl,zaF,jM,zK,zo,zo,zo,zo,zo,jM,.rob false [49,48]]
def zd5:Mm:=⟨22,[WJ,znh],[],⟨zb6,[]⟩⟩
def zng:AV:=.agg [Wc,Zl,zaF,jM,zK,zo,zo,zo,zo,zo,jM,.rob false [48,57]]
def zd4:Mm:=⟨22,[zng,znh],[],⟨zb6,[]⟩⟩
def zrJ:AV:=.agg [Wc,Zl,zaF,jM,zK,zo,zo,zo,zo,zo,jM,.rob false [48,49]]
def zd3:Mm:=⟨22,[zrJ,ziD],[],⟨zb6,[]⟩⟩
def zd2:Mm:=⟨22,[WJ,zng],[],⟨zb6,[]⟩⟩
def zd1:Mm:=⟨17,[.int .i64 (10)],[],⟨znh,[]⟩⟩
def zd0:Mm:=⟨17,[.int .i64 (4)],[],⟨zni,[]⟩⟩
def zdZ:Mm:=⟨17,[.int .i64 (5)],[],⟨WJ,[]⟩⟩
def zdY:Mm:=⟨17,[.int .i64 (9)],[],⟨zng,[]⟩⟩
def zdX:Mm:=⟨17,[zhm],[],⟨ziD,[]⟩⟩
def zdW:Mm:=⟨17,[qV],[],⟨zrJ,[]⟩⟩
def zdV:Mm:=⟨24,[zaF],[],⟨zeY,[]⟩⟩
def zdU:Mm:=⟨24,[.str [90,57]],[],⟨zhn,[]⟩⟩
def zdT:Mm:=⟨24,[.str [88,88]],[],⟨zrN,[]⟩⟩
def zdS:Mm:=⟨7,[],[],⟨.bool true,[]⟩⟩
noncomputable def f22(ms:List Mm)(h:ms.all (Mm.good zrI)=true)(m:Mm):Option Out:=zgF Tryz.prog zuN (zw3 ms h) 30 m.g m.args m.h
end Go.Proofs.C06
end
