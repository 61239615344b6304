/-
  A part of the proof of the laws.
-/
import Derived.Test.YtigfdpnifmaleaaGreatDoorIn
import Derived.Test.YtigfdpnifmaleaaGreatDoorLx
import Derived.Test.YtigfdpnifmaleaaGreatDoorAmB
import Derived.Test.YtigfdpnifmaleaaGreatDoorSh
section
set_option maxHeartbeats 40000000
set_option maxRecDepth 100000
namespace Go.Proofs.C06
open Go Go.RowKit Go.Vc Go.Am
def libs19:List Con:=[(zc0 4000),(XM 4000),(Ku 4000),(Ks 4000),(zh6 4000),(We 4000),(Kq 4000),(zgI 4000),(Wv 4000),(zf0 4000),(Kl 4000),(Kr 4000),(znH 4000),(ziD 4000),(Qa 4000),(zmM 4000),(Kt 4000),(Kp 4000),zqe,(Wi 4000),(zh8 4000),(zh9 4000),(zgz 4000),(zdg 4000),(zaU 4000),(Yj 4000),(ziE 4000)]
def zzD:List RowN:=[⟨5,[],[7,9,10,11,12,14,15],[]⟩,⟨7,[],[18,19,20,21,22],[]⟩,⟨9,[],[28],[29,30,31]⟩,⟨10,[],[32],[]⟩,⟨11,[],[33,34],[]⟩,⟨12,[],[35],[]⟩,⟨14,[],[37],[]⟩,⟨15,[],[33,38,39,44,45,46,48,49,69,74,77,97,103,129,137,141,145,150,151,152,153,154,160,184,200,209,237,238,239,240,241,242,243,244,268,276,278,305,307,308,324,335,338,343,345,346],[83,205]⟩,⟨18,[],[47,48,49],[]⟩,⟨19,[],[50,51,52],[]⟩,⟨20,[],[53,54,55],[]⟩,⟨21,[],[19,56],[]⟩,⟨22,[],[57,58],[]⟩,⟨28,[],[68,69],[]⟩,⟨29,[],[],[]⟩,⟨30,[],[],[]⟩,⟨31,[],[],[]⟩,⟨32,[],[70,71],[]⟩,⟨33,[],[72,73,74,75,76,77],[]⟩,⟨34,[],[20,34,78,79,80,81],[]⟩,⟨35,[],[],[]⟩,⟨37,[],[],[]⟩,⟨38,[],[],[]⟩,⟨39,[],[40,39,44,45,46,48,49,69,74,77,97,103,129,137,141,145,150,151,152,153,154,160,184,200,209,237,238,239,240,241,242,243,244,268,276,278,305,307,308,324,335,338,343,345,346],[83,205]⟩,⟨47,[],[108],[]⟩,⟨48,[],[6],[]⟩,⟨49,[],[],[]⟩,⟨50,[],[6],[]⟩,⟨51,[],[109,39,44,45,46,48,49,69,74,77,97,103,129,137,141,145,150,151,152,153,154,160,184,200,209,237,238,239,240,241,242,243,244,268,276,278,305,307,308,324,335,338,343,345,346],[83,205]⟩,⟨52,[],[110,111],[]⟩,⟨53,[],[112],[]⟩,⟨54,[0],[113],[]⟩,⟨55,[],[114],[]⟩,⟨56,[],[115,116],[]⟩,⟨57,[],[117],[]⟩,⟨58,[],[],[]⟩,⟨68,[],[127,128,39,44,45,46,48,49,69,74,77,97,103,129,137,141,145,150,151,152,153,154,160,184,200,209,237,238,239,240,241,242,243,244,268,276,278,305,307,308,324,335,338,343,345,346],[83,205]⟩,⟨69,[],[68,129],[]⟩,⟨70,[1],[130,131,132],[133,134]⟩,⟨71,[],[135],[136]⟩,⟨72,[],[137,39,44,45,46,48,49,69,74,77,97,103,129,141,145,150,151,152,153,154,160,184,200,209,237,238,239,240,241,242,243,244,268,276,278,305,307,308,324,335,338,343,345,346],[83,205]⟩,⟨73,[],[138],[]⟩,⟨74,[],[],[]⟩,⟨75,[],[139],[]⟩,⟨76,[],[39,44,45,46,48,49,69,74,77,97,103,129,137,141,145,150,151,152,153,154,160,184,200,209,237,238,239,240,241,242,243,244,268,276,278,305,307,308,324,335,338,343,345,346],[83,205]⟩,⟨77,[],[140,141],[]⟩,⟨78,[],[7,20,57,80,142,143],[]⟩,⟨79,[],[18,142,144,145,146,147],[]⟩,⟨80,[],[148],[]⟩,⟨81,[2,3],[],[]⟩,⟨40,[],[75,82,39,44,45,46,48,49,69,74,77,97,103,129,137,141,145,150,151,152,153,154,160,184,200,209,237,238,239,240,241,242,243,244,268,276,278,305,307,308,324,335,338,343,345,346],[83,205]⟩,⟨108,[],[39,44,45,46,48,49,69,74,77,97,103,129,137,141,145,150,151,152,153,154,160,184,200,209,237,238,239,240,241,242,243,244,268,276,278,305,307,308,324,335,338,343,345,346],[83,205]⟩,⟨6,[],[16,17],[]⟩,⟨109,[],[186],[]⟩,⟨110,[4],[],[]⟩,⟨111,[0,5,6],[],[]⟩,⟨112,[],[110,111],[]⟩,⟨113,[0],[],[]⟩,⟨114,[],[],[]⟩,⟨115,[4],[116,121],[]⟩,⟨116,[0],[63],[]⟩,⟨117,[],[],[]⟩,⟨127,[],[193],[]⟩,⟨128,[],[],[]⟩,⟨129,[],[193,194,195,196],[]⟩,⟨130,[],[197],[]⟩,⟨131,[0,5],[198,199,200],[]⟩,⟨132,[],[198,201],[]⟩,⟨133,[],[],[]⟩,⟨134,[],[],[]⟩,⟨135,[],[203,204],[202]⟩,⟨136,[],[],[]⟩,⟨137,[],[],[]⟩,⟨138,[],[39,44,45,46,48,49,69,74,77,97,103,129,137,141,145,150,151,152,153,154,160,184,200,209,237,238,239,240,241,242,243,244,268,276,278,305,307,308,324,335,338,343,345,346],[83,205]⟩,⟨139,[],[39,44,45,46,48,49,69,74,77,97,103,129,137,141,145,150,151,152,153,154,160,184,200,209,237,238,239,240,241,242,243,244,268,276,278,305,307,308,324,335,338,343,345,346],[205,83]⟩,⟨140,[],[39,44,45,46,48,49,69,74,77,97,103,129,137,141,145,150,151,152,153,154,160,184,200,209,237,238,239,240,241,242,243,244,268,276,278,305,307,308,324,335,338,343,345,346],[83,205]⟩,⟨141,[],[],[]⟩,⟨142,[],[206],[]⟩,⟨143,[7,8],[18,19,20,21,22,81],[]⟩,⟨144,[],[207],[]⟩,⟨145,[],[],[]⟩,⟨146,[],[6,51],[]⟩,⟨147,[],[208,209],[]⟩,⟨148,[],[19,75,82,210,39,44,45,46,48,49,69,74,77,97,103,129,137,141,145,150,151,152,153,154,160,184,200,209,237,238,239,240,241,242,243,244,268,276,278,305,307,308,324,335,338,343,345,346],[83,205]⟩,⟨82,[],[150,151,152,153,154],[]⟩,⟨83,[],[84,39,44,45,46,48,49,69,74,77,97,103,129,137,141,145,150,151,152,153,154,160,184,200,209,237,238,239,240,241,242,243,244,268,276,278,305,307,308,324,335,338,343,345,346],[83,205]⟩,⟨16,[9],[42],[]⟩,⟨17,[9],[43,44,45,46,39,48,49,69,74,77,97,103,129,137,141,145,150,151,152,153,154,160,184,200,209,237,238,239,240,241,242,243,244,268,276,278,305,307,308,324,335,338,343,345,346],[83,205]⟩,⟨186,[],[237,238,239,240,241,242,243,244],[]⟩,⟨121,[],[112],[]⟩,⟨63,[0,4],[111,112],[]⟩,⟨193,[],[247],[]⟩,⟨194,[],[248],[]⟩,⟨195,[],[193,194,249,250,251,252,253,254,255,256],[]⟩,⟨196,[],[128],[]⟩,⟨197,[9],[87,257],[]⟩,⟨198,[],[],[]⟩,⟨199,[],[258],[]⟩,⟨200,[],[],[]⟩,⟨201,[10],[259],[]⟩,⟨202,[],[260],[]⟩,⟨203,[],[261,262,263],[]⟩,⟨204,[11],[261,262,264,265,266,267,268,269,270],[]⟩,⟨205,[],[],[]⟩,⟨206,[],[],[]⟩,⟨207,[],[39,44,45,46,48,49,69,74,77,97,103,129,137,141,145,150,151,152,153,154,160,184,200,209,237,238,239,240,241,242,243,244,268,276,278,305,307,308,324,335,338,343,345,346],[83,205]⟩,⟨208,[],[39,44,45,46,48,49,69,74,77,97,103,129,137,141,145,150,151,152,153,154,160,184,200,209,237,238,239,240,241,242,243,244,268,276,278,305,307,308,324,335,338,343,345,346],[83,205]⟩,⟨209,[],[],[]⟩,⟨210,[],[112,214],[]⟩,⟨150,[],[53,54,111,212,213],[]⟩,⟨151,[],[53,150,214],[]⟩,⟨152,[],[53,111,215],[]⟩,⟨153,[0],[53,111,216],[]⟩,⟨154,[5],[53,111,215,217],[]⟩,⟨84,[],[155,156],[]⟩,⟨42,[],[],[]⟩,⟨43,[0,12,13],[88,89,90,39,44,45,46,48,49,69,74,77,97,103,129,137,141,145,150,151,152,153,154,160,184,200,209,237,238,239,240,241,242,243,244,268,276,278,305,307,308,324,335,338,343,345,346],[83,205]⟩,⟨44,[14],[89,93],[]⟩,⟨45,[9,2,15,5,1,10],[97,39,44,45,46,48,49,69,74,77,103,129,137,141,145,150,151,152,153,154,160,184,200,209,237,238,239,240,241,242,243,244,268,276,278,305,307,308,324,335,338,343,345,346],[83,205]⟩,⟨46,[9,16],[102,103,105,106,107],[]⟩,⟨237,[4,17],[289],[]⟩,⟨238,[],[289],[]⟩,⟨239,[4],[],[]⟩,⟨240,[],[],[]⟩,⟨241,[],[],[]⟩,⟨242,[],[],[]⟩,⟨243,[4],[],[]⟩,⟨244,[],[],[]⟩,⟨247,[],[291],[]⟩,⟨248,[],[],[]⟩,⟨249,[],[193,194,247,292],[]⟩,⟨250,[],[28],[]⟩,⟨251,[],[127,193,248],[]⟩,⟨252,[],[255,293],[]⟩,⟨253,[18],[294,296,297],[]⟩,⟨254,[],[128,196,297,298,299,300,301],[]⟩,⟨255,[],[299,302],[]⟩,⟨256,[],[127,128,194,196,251,252,292,293],[]⟩,⟨87,[],[157],[]⟩,⟨257,[],[85,178],[]⟩,⟨258,[],[39,44,45,46,48,49,69,74,77,97,103,129,137,141,145,150,151,152,153,154,160,184,200,209,237,238,239,240,241,242,243,244,268,276,278,305,307,308,324,335,338,343,345,346],[83,205]⟩,⟨259,[9],[],[]⟩,⟨260,[],[],[]⟩,⟨261,[],[303],[]⟩,⟨262,[],[],[]⟩,⟨263,[],[],[]⟩,⟨264,[19],[262,266,268,304,305,306,307,39,44,45,46,48,49,69,74,77,97,103,129,137,141,145,150,151,152,153,154,160,184,200,209,237,238,239,240,241,242,243,244,276,278,308,324,335,338,343,345,346],[83,205]⟩,⟨265,[12,13],[165,182,262],[]⟩,⟨266,[],[],[]⟩,⟨267,[],[262,266,268,306,308],[]⟩,⟨268,[],[308],[]⟩,⟨269,[4],[266,268,304,306],[]⟩,⟨270,[11],[266],[]⟩,⟨214,[],[],[]⟩,⟨212,[20],[275,276],[]⟩,⟨213,[],[275,278],[]⟩,⟨215,[],[],[]⟩,⟨216,[12,13,5],[113,182,213],[]⟩,⟨217,[],[112,279],[]⟩,⟨155,[],[218],[]⟩,⟨156,[12,13],[90,164],[]⟩,⟨88,[11,21],[89,93],[]⟩,⟨89,[],[160],[]⟩,⟨90,[22,23],[],[]⟩,⟨93,[],[39,44,45,46,48,49,69,74,77,97,103,129,137,141,145,150,151,152,153,154,160,184,200,209,237,238,239,240,241,242,243,244,268,276,278,305,307,308,324,335,338,343,345,346],[83,205]⟩,⟨97,[],[89,93],[]⟩,⟨102,[12,13,24],[90,164,178,180,181,182,39,44,45,46,48,49,69,74,77,97,103,129,137,141,145,150,151,152,153,154,160,184,200,209,237,238,239,240,241,242,243,244,268,276,278,305,307,308,324,335,338,343,345,346],[83,205]⟩,⟨103,[25],[],[]⟩,⟨105,[],[93,184],[]⟩,⟨106,[],[89,93,185],[]⟩,⟨107,[],[89,185,39,44,45,46,48,49,69,74,77,97,103,129,137,141,145,150,151,152,153,154,160,184,200,209,237,238,239,240,241,242,243,244,268,276,278,305,307,308,324,335,338,343,345,346],[83,205]⟩,⟨289,[],[],[]⟩,⟨291,[],[],[]⟩,⟨292,[],[],[]⟩,⟨293,[],[128,196],[]⟩,⟨294,[18],[318,319,320],[]⟩,⟨296,[],[322],[]⟩,⟨297,[],[],[]⟩,⟨298,[],[323,324,325],[]⟩,⟨299,[],[],[]⟩,⟨300,[],[326],[136]⟩,⟨301,[18],[299,300],[]⟩,⟨302,[],[327],[31,328]⟩,⟨157,[],[219,220,221,222],[]⟩,⟨85,[],[],[]⟩,⟨178,[],[234],[]⟩,⟨303,[],[247],[]⟩,⟨304,[],[],[]⟩,⟨305,[],[263],[]⟩,⟨306,[],[262,39,44,45,46,48,49,69,74,77,97,103,129,137,141,145,150,151,152,153,154,160,184,200,209,237,238,239,240,241,242,243,244,268,276,278,305,307,308,324,335,338,343,345,346],[83,205]⟩,⟨307,[],[],[]⟩,⟨165,[],[],[]⟩,⟨182,[22,23],[],[]⟩,⟨308,[],[],[]⟩,⟨275,[],[39,44,45,46,48,49,69,74,77,97,103,129,137,141,145,150,151,152,153,154,160,184,200,209,237,238,239,240,241,242,243,244,268,276,278,305,307,308,324,335,338,343,345,346],[83,205]⟩,⟨276,[],[],[]⟩,⟨278,[],[],[]⟩,⟨279,[],[225,282],[]⟩,⟨218,[9,12,13],[87,90,164,178],[]⟩,⟨164,[22,23,26],[],[]⟩,⟨160,[17],[],[]⟩,⟨180,[22,23],[235],[]⟩,⟨181,[],[],[]⟩,⟨184,[],[],[]⟩,⟨185,[],[89,93],[]⟩,⟨318,[18],[],[]⟩,⟨319,[],[247],[]⟩,⟨320,[],[319],[]⟩,⟨322,[],[334,335],[]⟩,⟨323,[],[336,39,44,45,46,48,49,69,74,77,97,103,129,137,141,145,150,151,152,153,154,160,184,200,209,237,238,239,240,241,242,243,244,268,276,278,305,307,308,324,335,338,343,345,346],[83,205]⟩,⟨324,[],[],[]⟩,⟨325,[],[],[]⟩,⟨326,[],[],[]⟩,⟨327,[],[337,338],[]⟩,⟨328,[],[],[]⟩,⟨219,[],[280],[]⟩,⟨220,[],[],[]⟩,⟨221,[],[],[]⟩,⟨222,[],[281],[]⟩,⟨234,[],[],[]⟩,⟨225,[],[283,284,285,286],[]⟩,⟨282,[],[315],[]⟩,⟨235,[],[288],[]⟩,⟨334,[],[341,39,44,45,46,48,49,69,74,77,97,103,129,137,141,145,150,151,152,153,154,160,184,200,209,237,238,239,240,241,242,243,244,268,276,278,305,307,308,324,335,338,343,345,346],[83,205]⟩,⟨335,[],[],[]⟩,⟨336,[],[],[]⟩,⟨337,[],[342,39,44,45,46,48,49,69,74,77,97,103,129,137,141,145,150,151,152,153,154,160,184,200,209,237,238,239,240,241,242,243,244,268,276,278,305,307,308,324,335,338,343,345,346],[83,205]⟩,⟨338,[],[337,343],[]⟩,⟨280,[],[],[]⟩,⟨281,[],[],[]⟩,⟨283,[],[316],[]⟩,⟨284,[],[316],[]⟩,⟨285,[20],[316,317],[]⟩,⟨286,[20],[316,317],[]⟩,⟨315,[],[331,332],[]⟩,⟨288,[],[],[]⟩,⟨341,[],[323,345],[]⟩,⟨342,[],[],[]⟩,⟨343,[],[337,346],[]⟩,⟨316,[],[],[]⟩,⟨317,[],[],[]⟩,⟨331,[],[],[]⟩,⟨332,[],[331],[]⟩,⟨345,[],[],[]⟩,⟨346,[],[319,342,349],[]⟩,⟨349,[],[294,319,326,327,342],[136]⟩]
def zor:List RunRow:=RowN.rows libs19 zzD
def ztE:List FuncId:=[29,30,31,83,133,134,136,202,205,328]
def zBd(g:FuncId):Bool:=Am.memN g []
theorem zl4:zor.all RunRow.good=true:=by kernel_rfl
theorem ztv:zor.all (RunRow.quietAll ztE)=true:=by kernel_rfl
def zAv(ms:List Mm)(h:ms.all (Mm.good ztE)=true):RunW:=RunRow.runW zor ztE zBd 4000 zl4 ztv ms h
end Go.Proofs.C06
end
section
set_option maxRecDepth 100000
set_option maxHeartbeats 40000000
namespace Go.Proofs.C06
open Go Go.RowKit Go.Vc Go.Am
def yZ:List AV:=[.ptr 0 0]
def zM:AV:=.bool true
def zqq:AV:=.str [65,32,62,32,66,32,65,78,68,32,60,32,53]
def j2:AV:=.rwc 1 3 (0) (1)
def zg:AV:=.int .i64 (0)
def zt:AV:=.int .i64 (1)
def Wb:AV:=.int .i64 (8)
def j1:Option AO:=some (.vals 237 3 [.agg [zg,zt,Wb]])
def jn:AV:=.int .u8 (1)
def XJ:AV:=.agg [jn,.str [65],zt,Wb,zM]
def yz:AV:=.int .u8 (5)
def WI:AV:=.int .i64 (10)
def zt8:AV:=.agg [yz,.str [62],zt,WI,zM]
def Kb:AV:=.int .i64 (12)
def zd:AV:=.bool false
def zjt:AV:=.agg [jn,.str [66],zt,Kb,zd]
def zt7:Heap:=[some (.cells 242 [zM,zqq,j2,.int .i64 (6),.rw 2]),j1,some (.vals 116 5 [XJ,zt8,zjt])]
def zjs:AV:=.str [65,78,68]
def zZ:AV:=.int .i64 (3)
def zt6:AV:=.tup [.agg [jn,zjs,zg,zg,zd],zZ,zg]
def zj5:Mm:=⟨204,yZ,zt7,⟨zt6,zt7⟩⟩
def YI:AV:=.agg [zg,zg,zg]
def zb5:AV:=.int .i64 (14)
def j3:AV:=.int .u8 (2)
def zoM:AV:=.agg [j3,.str [53],zt,.int .i64 (20),zd]
def zjr:List AV:=[XJ,zt8,zjt,.agg [jn,zjs,zt,zb5,zd],.agg [yz,.str [60],zt,.int .i64 (18),zd],zoM]
def zj4:Mm:=⟨135,yZ,[some (.cells 242 [zM,zqq,j2,zg,.nils]),j1],⟨YI,[some (.cells 242 [zM,zqq,j2,.int .i64 (13),.rw 2]),j1,some (.vals 116 5 zjr)]⟩⟩
def zt5:List AV:=[.ptr 0 0,.fn 129 yZ [],zjs,jn]
def jf:AV:=.int .u8 (0)
def zH:AV:=.int .i64 (-1)
def zb4:AV:=.int .i64 (5)
def YH:AV:=.int .u8 (4)
def zjq:AV:=.str [57,57,57]
def zfs:AV:=.str [66,73,71]
def Ka:Option AO:=some (.gens 113 true 22 3 [.str [82],zt,zH,jf,jf,.str [],zg,zg,zd,zd,zd,zd,zd,zZ,zg,zt,zg,zH,zH,zH,zH,.nils,.str [67],zb4,zg,YH,jf,zjq,zZ,zg,zd,zd,zd,zd,zd,zZ,zg,zt,zg,zH,zH,zH,zH,.nils,zfs,.int .i64 (88),zt,jf,jf,.str [],zg,zg,zd,zd,zd,zd,zd,zg,zg,zt,zg,zH,zH,zH,zH,.rw 2])
def zoL:AV:=.agg [j3,.str [49,48,48],zg,zg,zd]
def zoK:AV:=.agg [j3,.str [50,48,48],zg,zg,zd]
def zoJ:AV:=.agg [j3,.str [53],zg,zg,zd]
def JA:Option AO:=some (.vals 116 5 [zoL,.agg [jn,.str [84,72,82,85],zg,zg,zd],zoK,zoJ])
def Q0:AV:=.int .i64 (2)
def WH:AV:=.int .u8 (6)
def zt4:List AV:=[.agg [WH,zg,zt],.agg [YH,zg,Q0],.agg [jn,zg,zt]]
def qL:AV:=.rov true 3 [.agg [jn,zg,zg]]
def zb3:AV:=.rov true 5 [XJ]
def zfr:AV:=.agg [qL,.rov true 1 [zb3]]
def zt3:List AV:=[zfr,.agg [qL,.rov true 1 [.rov true 5 [zjt]]],.agg [qL,.rov true 1 [.rov true 5 [zoM]]]]
def zt2:List AV:=[zb3,.rov true 5 [zjt],.rov true 5 [zoM]]
def zj3:Mm:=⟨68,zt5,[some (.cells 87 [.rw 1,zZ,.rov true 5 zjr,zg,zg,zd,zg,jf,zd,.nils,.nils,.nils]),Ka,JA],⟨.tup [Q0,zg],[some (.cells 87 [.rw 1,zZ,.rov true 5 zjr,.int .i64 (6),zg,zM,zg,YH,zd,.rw 3,.rw 4,.rw 5]),Ka,JA,some (.vals 91 3 zt4),some (.vals 95 2 zt3),some (.vals 52 1 zt2)]⟩⟩
def zj2:Mm:=⟨15,[.agg [.rov true 3 zt4,.rov true 2 zt3,.rov true 1 zt2]],[],⟨.str [40,32,40,32,65,32,62,32,66,32,41,32,65,78,68,32,40,32,65,32,60,32,53,32,41,32,41],[]⟩⟩
def WG:AV:=.str [65,32,61,32,49,32,79,82,32,50,32,65,78,68,32,78,79,84,32,62,32,51]
def qK:AV:=.agg [yz,.str [61],zt,WI,zM]
def X9:AV:=.agg [j3,.str [49],zt,Kb,zd]
def zjp:AV:=.agg [jn,.str [79,82],zt,zb5,zd]
def zb2:AV:=.agg [j3,.str [50],zt,.int .i64 (17),zd]
def zoI:AV:=.agg [jn,zjs,zt,.int .i64 (19),zd]
def zt1:Heap:=[some (.cells 242 [zM,WG,j2,.int .i64 (15),.rw 2]),j1,some (.vals 116 5 [XJ,qK,X9,zjp,zb2,zoI])]
def zjo:AV:=.str [78,79,84]
def zj1:Mm:=⟨204,yZ,zt1,⟨.tup [.agg [jn,zjo,zg,zg,zd],zZ,zg],zt1⟩⟩
def zt0:Heap:=[some (.cells 242 [zM,WG,j2,.int .i64 (11),.rw 2]),j1,some (.vals 116 5 [XJ,qK,X9,zjp,zb2])]
def zj0:Mm:=⟨204,yZ,zt0,⟨zt6,zt0⟩⟩
def ztZ:Heap:=[some (.cells 242 [zM,WG,j2,.int .i64 (6),.rw 2]),j1,some (.vals 116 5 [XJ,qK,X9])]
def zjZ:Mm:=⟨204,yZ,ztZ,⟨.tup [.agg [jn,.str [79,82],zg,zg,zd],Q0,zg],ztZ⟩⟩
def ztY:AV:=.agg [jn,zjo,zt,.int .i64 (23),zd]
def ztX:Heap:=[some (.cells 242 [zM,WG,j2,.int .i64 (19),.rw 2]),j1,some (.vals 116 5 [XJ,qK,X9,zjp,zb2,zoI,ztY])]
def zjY:Mm:=⟨204,yZ,ztX,⟨.tup [.agg [yz,.str [62],zg,zg,zd],zt,zg],ztX⟩⟩
def zoH:Heap:=[some (.cells 242 [zM,WG,j2,zg,.nils]),j1]
def zjX:Mm:=⟨204,yZ,zoH,⟨.tup [.agg [jn,.str [65],zg,zg,zd],zt,zg],zoH⟩⟩
def zoG:AV:=.agg [j3,.str [51],zt,.int .i64 (29),zd]
def ztW:List AV:=[XJ,qK,X9,zjp,zb2,zoI,ztY,.agg [yz,.str [62],zt,.int .i64 (27),zd],zoG]
def zjW:Mm:=⟨135,yZ,zoH,⟨YI,[some (.cells 242 [zM,WG,j2,.int .i64 (22),.rw 2]),j1,some (.vals 116 5 ztW)]⟩⟩
def zfq:AV:=.rov true 5 ztW
def zb1:AV:=.int .i64 (4)
def ztV:Option AO:=some (.gens 113 true 22 3 [.str [82],zt,zH,jf,jf,.str [],zg,zg,zd,zd,zd,zd,zd,zZ,zg,zt,zg,zH,zH,zH,zH,.nils,.str [67],zb4,zg,YH,jf,zjq,zZ,zg,zd,zd,zd,zd,zd,zZ,zg,zt,zg,zH,zH,zH,zH,.nils,zfs,.int .i64 (88),zt,jf,jf,.str [],zg,zg,zd,zd,zd,zd,zd,zg,zg,zt,zg,zH,zH,zH,zH,.rw 5])
def zb0:AV:=.agg [yz,zg,zt]
def ztU:AV:=.agg [qL,.rov true 1 [.rov true 5 [X9]]]
def zoF:AV:=.agg [.int .u8 (3),Q0,zg]
def zoE:AV:=.agg [jn,zt,zZ]
def zoD:List AV:=[zfr,ztU,.agg [qL,.rov true 1 [.rov true 5 [zb2]]],.agg [qL,.rov true 1 [.rov true 5 [zoG]]]]
def zoC:List AV:=[zb3,.rov true 5 [X9],.rov true 5 [zb2],.rov true 5 [zoG]]
def zeF:Mm:=⟨68,zt5,[some (.cells 87 [.rw 1,zZ,zfq,zb1,zg,zM,zg,yz,zd,.rw 2,.rw 3,.rw 4]),ztV,some (.vals 91 3 [zb0]),some (.vals 95 2 [zfr,ztU]),some (.vals 52 1 [zb3,.rov true 5 [X9]]),JA],⟨.tup [zb1,zg],[some (.cells 87 [.rw 1,zZ,zfq,.int .i64 (9),zg,zM,zg,WH,zM,.rw 6,.rw 7,.rw 8]),ztV,none,none,none,JA,some (.vals 91 3 [zb0,.agg [yz,zg,Q0],.agg [WH,zg,zZ],zoF,zoE]),some (.vals 95 2 zoD),some (.vals 52 1 zoC)]⟩⟩
def ztT:List AV:=[.ptr 0 0,.fn 69 yZ [],.str [79,82],j3]
def ztS:List AV:=[zb0,.agg [yz,zg,Q0],.agg [WH,zg,zZ],zoF,zoE,.agg [j3,zg,zb1]]
def zeE:Mm:=⟨68,ztT,[some (.cells 87 [.rw 1,zZ,zfq,zg,zg,zd,zg,jf,zd,.nils,.nils,.nils]),Ka,JA],⟨.tup [zb4,zg],[some (.cells 87 [.rw 1,zZ,zfq,.int .i64 (9),zg,zM,zg,WH,zM,.rw 3,.rw 4,.rw 5]),Ka,JA,some (.vals 91 3 ztS),some (.vals 95 2 zoD),some (.vals 52 1 zoC)]⟩⟩
def ztR:List AV:=[.rov true 3 ztS,.rov true 2 zoD,.rov true 1 zoC]
def ztQ:Option AO:=some (.cells 120 [.fn 39 [] [.ptr 0 0,.ptr 1 0,.ptr 2 0]])
def ztP:Option AO:=some (.mp [(jn,.str [32,65,78,68,32]),(j3,.str [32,79,82,32]),(YH,.str [32,60,32]),(yz,.str [32,61,32]),(WH,.str [32,62,32]),(.int .u8 (7),.str [32,73,83,32,78,85,77,69,82,73,67]),(.int .u8 (8),.str [32,73,83,32,65,76,80,72,65,66,69,84,73,67]),(.int .u8 (9),.str [32,73,83,32,80,79,83,73,84,73,86,69]),(.int .u8 (10),.str [32,73,83,32,78,69,71,65,84,73,86,69]),(.int .u8 (11),.str [32,73,83,32,90,69,82,79])])
def ztO:Heap:=[some (.cells 46 ztR),ztQ,some (.cells 118 [.map 3]),ztP]
def ztN:AV:=.str [40,32,40,32,65,32,61,32,49,32,41,32,79,82,32,40,32,40,32,65,32,61,32,50,32,41,32,65,78,68,32,40,32,78,79,84,32,40,32,65,32,62,32,51,32,41,32,41,32,41,32,41]
def zeD:Mm:=⟨39,[zb4,.ptr 0 0,.ptr 1 0,.ptr 2 0],ztO,⟨ztN,ztO⟩⟩
def zjn:AV:=.str [78,79,84,32,65,32,73,83,32,78,79,84,32,78,85,77,69,82,73,67]
def ztM:AV:=.agg [jn,zjo,zt,Wb,zM]
def zjm:AV:=.agg [jn,.str [65],zt,Kb,zd]
def ztL:AV:=.agg [jn,.str [73,83],zt,zb5,zd]
def ztK:AV:=.agg [jn,zjo,zt,.int .i64 (17),zd]
def ztJ:Heap:=[some (.cells 242 [zM,zjn,j2,.int .i64 (13),.rw 2]),j1,some (.vals 116 5 [ztM,zjm,ztL,ztK])]
def zoB:AV:=.str [78,85,77,69,82,73,67]
def zeC:Mm:=⟨204,yZ,ztJ,⟨.tup [.agg [jn,zoB,zg,zg,zd],.int .i64 (7),zg],ztJ⟩⟩
def zoA:List AV:=[ztM,zjm,ztL,ztK,.agg [jn,zoB,zt,.int .i64 (21),zd]]
def zeB:Mm:=⟨135,yZ,[some (.cells 242 [zM,zjn,j2,zg,.nils]),j1],⟨YI,[some (.cells 242 [zM,zjn,j2,.int .i64 (20),.rw 2]),j1,some (.vals 116 5 zoA)]⟩⟩
def zjl:AV:=.str [40,32,65,32,43,32,66,32,41,32,62,61,32,50]
def zoz:AV:=.agg [yz,.str [40],zt,Wb,zM]
def WF:AV:=.agg [jn,.str [65],zt,WI,zM]
def ztI:AV:=.agg [yz,.str [43],zt,Kb,zd]
def ztH:Heap:=[some (.cells 242 [zM,zjl,j2,.int .i64 (6),.rw 2]),j1,some (.vals 116 5 [zoz,WF,ztI])]
def zeA:Mm:=⟨204,yZ,ztH,⟨.tup [.agg [jn,.str [66],zg,zg,zd],zt,zg],ztH⟩⟩
def zoy:AV:=.agg [jn,.str [66],zt,zb5,zd]
def zox:AV:=.agg [j3,.str [50],zt,.int .i64 (21),zd]
def zjk:List AV:=[zoz,WF,ztI,zoy,.agg [yz,.str [41],zt,.int .i64 (16),zd],.agg [yz,.str [62,61],zt,.int .i64 (18),zd],zox]
def zez:Mm:=⟨135,yZ,[some (.cells 242 [zM,zjl,j2,zg,.nils]),j1],⟨YI,[some (.cells 242 [zM,zjl,j2,zb5,.rw 2]),j1,some (.vals 116 5 zjk)]⟩⟩
def zjj:AV:=.agg [YH,zg,zt]
def zji:AV:=.agg [.int .u8 (3),zg,zg]
def ztG:List AV:=[.agg [.rov true 3 [.agg [jn,zg,zg],.agg [jn,zt,zg],.agg [j3,zg,zt]],.rov true 1 [.rov true 5 [WF],.rov true 5 [zoy]]],.agg [qL,.rov true 1 [.rov true 5 [zox]]]]
def ztF:List AV:=[.rov true 5 [WF],.rov true 5 [zoy],.rov true 5 [zox]]
def zey:Mm:=⟨195,yZ,[some (.cells 87 [.rw 1,zZ,.rov true 5 zjk,zg,zg,zd,zg,jf,zd,.nils,.nils,.nils]),Ka,JA],⟨.tup [zt,zg],[some (.cells 87 [.rw 1,zZ,.rov true 5 zjk,.int .i64 (7),zg,zM,zg,YH,zM,.rw 3,.rw 4,.rw 5]),Ka,JA,some (.vals 91 3 [zjj,zji]),some (.vals 95 2 ztG),some (.vals 52 1 ztF)]⟩⟩
def zow:AV:=.str [40,32,65,32,90,69,82,79,32,41]
def zbZ:AV:=.agg [jn,.str [90,69,82,79],zt,Kb,zd]
def zjh:List AV:=[zoz,WF,zbZ,.agg [yz,.str [41],zt,.int .i64 (17),zd]]
def zex:Mm:=⟨135,yZ,[some (.cells 242 [zM,zow,j2,zg,.nils]),j1],⟨YI,[some (.cells 242 [zM,zow,j2,WI,.rw 2]),j1,some (.vals 116 5 zjh)]⟩⟩
def zew:Mm:=⟨68,ztT,[some (.cells 87 [.rw 1,zZ,.rov true 5 zjh,zg,zg,zd,zg,jf,zd,.nils,.nils,.nils]),Ka,JA],⟨.tup [zg,zg],[some (.cells 87 [.rw 1,zZ,.rov true 5 zjh,zb1,zg,zd,zg,jf,zd,.rw 3,.rw 4,.rw 5]),Ka,JA,some (.vals 91 3 [.agg [.int .u8 (11),zg,zg]]),some (.vals 95 2 [.agg [qL,.rov true 1 [.rov true 5 [WF]]]]),some (.vals 52 1 [.rov true 5 [WF]])]⟩⟩
def zjg:AV:=.rov false 3 [.agg [jn,zg,zg]]
def zqB:AV:=.rov true 5 [.agg [jn,.str [67],zt,Wb,zd],.agg [jn,.str [79,70],zt,Wb,zd],.agg [jn,.str [82],zt,Wb,zd]]
def zjD:List AV:=[.rov true 3 [zjj,zji,.agg [WH,zg,Q0],zoF,zoE,.agg [yz,zg,zZ],.agg [j3,zb1,zb4]],.rov true 2 [.agg [zjg,.rov false 1 [zqB]],.agg [zjg,.rov false 1 [.rov true 5 [zoL]]],.agg [zjg,.rov false 1 [.rov true 5 [zoK]]],.agg [zjg,.rov false 1 [.rov true 5 [zoJ]]]],.rov true 1 [zqB,.rov true 5 [zoL],.rov true 5 [zoK],.rov true 5 [zoJ]]]
def zqA:Heap:=[some (.cells 46 zjD),ztQ,some (.cells 118 [.map 3]),ztP]
def zev:Mm:=⟨39,[zb1,.ptr 0 0,.ptr 1 0,.ptr 2 0],zqA,⟨.str [40,32,40,32,78,79,84,32,40,32,67,32,79,70,32,82,32,60,32,49,48,48,32,41,32,41,32,65,78,68,32,40,32,78,79,84,32,40,32,67,32,79,70,32,82,32,62,32,50,48,48,32,41,32,41,32,41],zqA⟩⟩
def zeu:Mm:=⟨15,[.agg zjD],[],⟨.str [40,32,40,32,40,32,78,79,84,32,40,32,67,32,79,70,32,82,32,60,32,49,48,48,32,41,32,41,32,65,78,68,32,40,32,78,79,84,32,40,32,67,32,79,70,32,82,32,62,32,50,48,48,32,41,32,41,32,41,32,79,82,32,40,32,67,32,79,70,32,82,32,61,32,53,32,41,32,41],[]⟩⟩
def zet:Mm:=⟨7,[.agg [j3,jf,.str [88,88],zg,zg,zd,zd,zd,zd,zd,Q0,.rob false [48,55]],.agg [YH,jf,zjq,zZ,zg,zd,zd,zd,zd,zd,zZ,.rw 0]],[some (.bytes 5 [48,48,55])],⟨.tup [zt,zg],[some (.bytes 5 [48,48,55])]⟩⟩
def zjC:AV:=.str [84,32,61,32,83,80,65,67,69,83]
def Yf:AV:=.agg [jn,.str [84],zt,Wb,zM]
def zaD:AV:=.agg [jn,.str [83,80,65,67,69,83],zt,Kb,zd]
def zes:Mm:=⟨135,yZ,[some (.cells 242 [zM,zjC,j2,zg,.nils]),j1],⟨YI,[some (.cells 242 [zM,zjC,j2,WI,.rw 2]),j1,some (.vals 116 5 [Yf,qK,zaD])]⟩⟩
def zjB:AV:=.str [84,32,60,32,72,73,71,72,45,86,65,76,85,69]
def zjA:AV:=.agg [jn,.str [72,73,71,72,45,86,65,76,85,69],zt,Kb,zd]
def zjz:List AV:=[Yf,.agg [yz,.str [60],zt,WI,zM],zjA]
def zer:Mm:=⟨135,yZ,[some (.cells 242 [zM,zjB,j2,zg,.nils]),j1],⟨YI,[some (.cells 242 [zM,zjB,j2,zb5,.rw 2]),j1,some (.vals 116 5 zjz)]⟩⟩
def zjy:AV:=.str [84,32,61,32,90,69,82,79]
def zeq:Mm:=⟨135,yZ,[some (.cells 242 [zM,zjy,j2,zg,.nils]),j1],⟨YI,[some (.cells 242 [zM,zjy,j2,Wb,.rw 2]),j1,some (.vals 116 5 [Yf,qK,zbZ])]⟩⟩
def zaC:AV:=.agg [.rw 0,zZ]
def Zs:Heap:=[some (.gens 113 true 22 3 [.str [82],zt,zH,jf,jf,.str [],zg,zg,zd,zd,zd,zd,zd,zZ,zg,zt,zg,zH,zH,zH,zH,.nils,.str [67],zb4,zg,YH,jf,zjq,zZ,zg,zd,zd,zd,zd,zd,zZ,zg,zt,zg,zH,zH,zH,zH,.nils,zfs,.int .i64 (88),zt,jf,jf,.str [],zg,zg,zd,zd,zd,zd,zd,zg,zg,zt,zg,zH,zH,zH,zH,.rw 1]),JA]
def zdR:AV:=.rov true 5 [Yf]
def zjx:AV:=.agg [qL,.rov true 1 [zdR]]
def zqz:AV:=.agg [.rov true 3 [zb0],.rov true 2 [zjx,.agg [qL,.rov true 1 [.rov true 5 [zbZ]]]],.rov true 1 [zdR,.rov true 5 [zbZ]]]
def zep:Mm:=⟨9,[zaC,.rov true 5 [Yf,qK,zbZ]],Zs,⟨.tup [zqz,zg],Zs⟩⟩
def zqy:AV:=.agg [.rov true 3 [zjj],.rov true 2 [zjx,.agg [qL,.rov true 1 [.rov true 5 [zjA]]]],.rov true 1 [zdR,.rov true 5 [zjA]]]
def zeo:Mm:=⟨9,[zaC,.rov true 5 zjz],Zs,⟨.tup [zqy,zg],Zs⟩⟩
def zqx:AV:=.agg [.rov true 3 [zb0],.rov true 2 [zjx,.agg [qL,.rov true 1 [.rov true 5 [zaD]]]],.rov true 1 [zdR,.rov true 5 [zaD]]]
def zen:Mm:=⟨9,[zaC,.rov true 5 [Yf,qK,zaD]],Zs,⟨.tup [zqx,zg],Zs⟩⟩
def zqw:AV:=.rov true 5 [.agg [jn,zfs,zt,Wb,zM]]
def zem:Mm:=⟨10,[zfs],[],⟨zqw,[]⟩⟩
def zqv:AV:=.agg [.rov true 3 [.agg [.int .u8 (7),zg,zg],zji,.agg [.int .u8 (3),zt,zg]],.rov true 2 [.agg [qL,.rov true 1 [.rov true 5 [zjm]]]],.rov true 1 [.rov true 5 [zjm]]]
def zel:Mm:=⟨9,[zaC,.rov true 5 zoA],Zs,⟨.tup [zqv,zg],Zs⟩⟩
def zek:Mm:=⟨9,[zaC,zqw],Zs,⟨.tup [.agg zjD,zg],Zs⟩⟩
def zqu:AV:=.agg [j3,jf,.str [88,88,88],zg,zg,zd,zd,zd,zd,zd,zZ,.rob false [32,32,32]]
def zqt:Heap:=[some (.vals 28 12 [zqu,.agg [j3,jf,.str [88],zg,zg,zd,zd,zd,zd,zd,zt,.rob false [32]]])]
def zej:Mm:=⟨11,[zqx,.rw 0],zqt,⟨.tup [zM,zg],zqt⟩⟩
def zqs:Heap:=[some (.vals 28 12 [zqu,.agg [j3,jf,.str [88],zg,zg,zd,zd,zd,zd,zd,zt,.rob false [255]]])]
def zei:Mm:=⟨11,[zqy,.rw 0],zqs,⟨.tup [zM,zg],zqs⟩⟩
def zqr:Heap:=[some (.gens 28 true 12 2 [j3,jf,.str [88,88,88],zg,zg,zd,zd,zd,zd,zd,zZ,.rob false [32,32,32],YH,jf,.str [57],zt,zg,zd,zd,zd,zd,zd,zt,.rw 1]),some (.bytes 5 [48])]
def zeh:Mm:=⟨11,[zqz,.rw 0],zqr,⟨.tup [zd,zg],zqr⟩⟩
def zeg:Mm:=⟨15,[.agg [.rov true 3 [zjj,zji],.rov true 2 ztG,.rov true 1 ztF]],[],⟨.str [40,32,78,79,84,32,40,32,40,32,65,32,43,32,66,32,41,32,60,32,50,32,41,32,41],[]⟩⟩
def zef:Mm:=⟨15,[.agg ztR],[],⟨ztN,[]⟩⟩
def zee:Mm:=⟨7,[.agg [j3,jf,.str [88,88,88],zg,zg,zd,zd,zd,zd,zd,zZ,.rob false [65,66,32]],.agg [j3,jf,.str [88,88],zg,zg,zd,zd,zd,zd,zd,Q0,.rob false [65,66]]],[],⟨.tup [zg,zg],[]⟩⟩
def zed:Mm:=⟨10,[WG],[],⟨zfq,[]⟩⟩
def zec:Mm:=⟨10,[zjn],[],⟨.rov true 5 zoA,[]⟩⟩
def zeb:Mm:=⟨15,[zqv],[],⟨.str [40,32,78,79,84,32,40,32,78,79,84,32,40,32,65,32,73,83,32,78,85,77,69,82,73,67,32,41,32,41,32,41],[]⟩⟩
def zea:Mm:=⟨10,[zjB],[],⟨.rov true 5 zjz,[]⟩⟩
def zd9:Mm:=⟨10,[zjl],[],⟨.rov true 5 zjk,[]⟩⟩
def zd8:Mm:=⟨10,[zqq],[],⟨.rov true 5 zjr,[]⟩⟩
def zd7:Mm:=⟨10,[zjC],[],⟨.rov true 5 [Yf,qK,zaD],[]⟩⟩
def zd6:Mm:=⟨10,[zow],[],⟨.rov true 5 zjh,[]⟩⟩
def zd5:Mm:=⟨10,[zjy],[],⟨.rov true 5 [Yf,qK,zbZ],[]⟩⟩
def zd4:Mm:=⟨5,[],[],⟨zM,[]⟩⟩
def zjw:AV:=.str [65,32,78,85,77,69,82,73,67]
def zjv:List AV:=[XJ,.agg [jn,zoB,zt,WI,zM]]
def zd3:Mm:=⟨135,yZ,[some (.cells 242 [zM,zjw,j2,zg,.nils]),j1],⟨YI,[some (.cells 242 [zM,zjw,j2,.int .i64 (9),.rw 2]),j1,some (.vals 116 5 zjv)]⟩⟩
def zd2:Mm:=⟨10,[zjw],[],⟨.rov true 5 zjv,[]⟩⟩
def zd1:Mm:=⟨9,[.agg [.nils,zg],.rov true 5 zjv],[],⟨.tup [.agg [.rov true 3 [.agg [.int .u8 (7),zg,zg]],.rov true 2 [zfr],.rov true 1 [zb3]],zg],[]⟩⟩
def zju:AV:=.str [65,32,61,32,83,80,65,67,69]
def zaB:AV:=.agg [jn,.str [83,80,65,67,69],zt,Kb,zd]
def zd0:Mm:=⟨135,yZ,[some (.cells 242 [zM,zju,j2,zg,.nils]),j1],⟨YI,[some (.cells 242 [zM,zju,j2,.int .i64 (9),.rw 2]),j1,some (.vals 116 5 [XJ,qK,zaB])]⟩⟩
def zdZ:Mm:=⟨10,[zju],[],⟨.rov true 5 [XJ,qK,zaB],[]⟩⟩
def zdY:Mm:=⟨9,[.agg [.nils,zg],.rov true 5 [XJ,qK,zaB]],[],⟨.tup [.agg [.rov true 3 [zb0],.rov true 2 [zfr,.agg [qL,.rov true 1 [.rov true 5 [zaB]]]],.rov true 1 [zb3,.rov true 5 [zaB]]],zg],[]⟩⟩
noncomputable def f19(ms:List Mm)(h:ms.all (Mm.good ztE)=true)(m:Mm):Option Out:=zdu Tryz.prog zsb (zAv ms h) 30 m.g m.args m.h
end Go.Proofs.C06
end
