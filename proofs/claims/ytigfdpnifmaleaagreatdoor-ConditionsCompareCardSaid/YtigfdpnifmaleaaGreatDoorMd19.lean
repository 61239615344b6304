/-
  A part of the proof of the laws.
-/
import Derived.Test.YtigfdpnifmaleaaGreatDoorIn
import Derived.Test.YtigfdpnifmaleaaGreatDoorLx
import Derived.Test.YtigfdpnifmaleaaGreatDoorAmB
import Derived.Test.YtigfdpnifmaleaaGreatDoorSh
section
set_option maxHeartbeats 40000000
set_option maxRecDepth 100000
namespace Go.Proofs.C06
open Go Go.RowKit Go.Vc Go.Am
def libs19:List Con:=[(zdj 4000),(XK 4000),(Kv 4000),(Kt 4000),(zh7 4000),(Ws 4000),(Kr 4000),(zgO 4000),(WJ 4000),(zf5 4000),(Km 4000),(Ks 4000),(znt 4000),(ziH 4000),(Qa 4000),(zmw 4000),(Ku 4000),(Kq 4000),zp1,(Ww 4000),(zia 4000),(zib 4000),(zgE 4000),(zdA 4000),(zbd 4000),(Yl 4000),(ziI 4000)]
def zyV:List RowN:=[⟨5,[],[7,9,10,11,12,14,15],[]⟩,⟨7,[],[18,19,20,21,22],[]⟩,⟨9,[],[28],[29,30,31]⟩,⟨10,[],[32],[]⟩,⟨11,[],[33,34],[]⟩,⟨12,[],[35],[]⟩,⟨14,[],[37],[]⟩,⟨15,[],[33,38,39,44,45,46,48,49,69,74,77,97,103,129,137,141,145,150,151,152,153,154,160,184,200,209,237,238,239,240,241,242,243,244,268,276,278,305,307,308,324,335,338,343,345,346],[83,205]⟩,⟨18,[],[47,48,49],[]⟩,⟨19,[],[50,51,52],[]⟩,⟨20,[],[53,54,55],[]⟩,⟨21,[],[19,56],[]⟩,⟨22,[],[57,58],[]⟩,⟨28,[],[68,69],[]⟩,⟨29,[],[],[]⟩,⟨30,[],[],[]⟩,⟨31,[],[],[]⟩,⟨32,[],[70,71],[]⟩,⟨33,[],[72,73,74,75,76,77],[]⟩,⟨34,[],[20,34,78,79,80,81],[]⟩,⟨35,[],[],[]⟩,⟨37,[],[],[]⟩,⟨38,[],[],[]⟩,⟨39,[],[40,39,44,45,46,48,49,69,74,77,97,103,129,137,141,145,150,151,152,153,154,160,184,200,209,237,238,239,240,241,242,243,244,268,276,278,305,307,308,324,335,338,343,345,346],[83,205]⟩,⟨47,[],[108],[]⟩,⟨48,[],[6],[]⟩,⟨49,[],[],[]⟩,⟨50,[],[6],[]⟩,⟨51,[],[109,39,44,45,46,48,49,69,74,77,97,103,129,137,141,145,150,151,152,153,154,160,184,200,209,237,238,239,240,241,242,243,244,268,276,278,305,307,308,324,335,338,343,345,346],[83,205]⟩,⟨52,[],[110,111],[]⟩,⟨53,[],[112],[]⟩,⟨54,[0],[113],[]⟩,⟨55,[],[114],[]⟩,⟨56,[],[115,116],[]⟩,⟨57,[],[117],[]⟩,⟨58,[],[],[]⟩,⟨68,[],[127,128,39,44,45,46,48,49,69,74,77,97,103,129,137,141,145,150,151,152,153,154,160,184,200,209,237,238,239,240,241,242,243,244,268,276,278,305,307,308,324,335,338,343,345,346],[83,205]⟩,⟨69,[],[68,129],[]⟩,⟨70,[1],[130,131,132],[133,134]⟩,⟨71,[],[135],[136]⟩,⟨72,[],[137,39,44,45,46,48,49,69,74,77,97,103,129,141,145,150,151,152,153,154,160,184,200,209,237,238,239,240,241,242,243,244,268,276,278,305,307,308,324,335,338,343,345,346],[83,205]⟩,⟨73,[],[138],[]⟩,⟨74,[],[],[]⟩,⟨75,[],[139],[]⟩,⟨76,[],[39,44,45,46,48,49,69,74,77,97,103,129,137,141,145,150,151,152,153,154,160,184,200,209,237,238,239,240,241,242,243,244,268,276,278,305,307,308,324,335,338,343,345,346],[83,205]⟩,⟨77,[],[140,141],[]⟩,⟨78,[],[7,20,57,80,142,143],[]⟩,⟨79,[],[18,142,144,145,146,147],[]⟩,⟨80,[],[148],[]⟩,⟨81,[2,3],[],[]⟩,⟨40,[],[75,82,39,44,45,46,48,49,69,74,77,97,103,129,137,141,145,150,151,152,153,154,160,184,200,209,237,238,239,240,241,242,243,244,268,276,278,305,307,308,324,335,338,343,345,346],[83,205]⟩,⟨108,[],[39,44,45,46,48,49,69,74,77,97,103,129,137,141,145,150,151,152,153,154,160,184,200,209,237,238,239,240,241,242,243,244,268,276,278,305,307,308,324,335,338,343,345,346],[83,205]⟩,⟨6,[],[16,17],[]⟩,⟨109,[],[186],[]⟩,⟨110,[4],[],[]⟩,⟨111,[0,5,6],[],[]⟩,⟨112,[],[110,111],[]⟩,⟨113,[0],[],[]⟩,⟨114,[],[],[]⟩,⟨115,[4],[116,121],[]⟩,⟨116,[0],[63],[]⟩,⟨117,[],[],[]⟩,⟨127,[],[193],[]⟩,⟨128,[],[],[]⟩,⟨129,[],[193,194,195,196],[]⟩,⟨130,[],[197],[]⟩,⟨131,[0,5],[198,199,200],[]⟩,⟨132,[],[198,201],[]⟩,⟨133,[],[],[]⟩,⟨134,[],[],[]⟩,⟨135,[],[203,204],[202]⟩,⟨136,[],[],[]⟩,⟨137,[],[],[]⟩,⟨138,[],[39,44,45,46,48,49,69,74,77,97,103,129,137,141,145,150,151,152,153,154,160,184,200,209,237,238,239,240,241,242,243,244,268,276,278,305,307,308,324,335,338,343,345,346],[83,205]⟩,⟨139,[],[39,44,45,46,48,49,69,74,77,97,103,129,137,141,145,150,151,152,153,154,160,184,200,209,237,238,239,240,241,242,243,244,268,276,278,305,307,308,324,335,338,343,345,346],[205,83]⟩,⟨140,[],[39,44,45,46,48,49,69,74,77,97,103,129,137,141,145,150,151,152,153,154,160,184,200,209,237,238,239,240,241,242,243,244,268,276,278,305,307,308,324,335,338,343,345,346],[83,205]⟩,⟨141,[],[],[]⟩,⟨142,[],[206],[]⟩,⟨143,[7,8],[18,19,20,21,22,81],[]⟩,⟨144,[],[207],[]⟩,⟨145,[],[],[]⟩,⟨146,[],[6,51],[]⟩,⟨147,[],[208,209],[]⟩,⟨148,[],[19,75,82,210,39,44,45,46,48,49,69,74,77,97,103,129,137,141,145,150,151,152,153,154,160,184,200,209,237,238,239,240,241,242,243,244,268,276,278,305,307,308,324,335,338,343,345,346],[83,205]⟩,⟨82,[],[150,151,152,153,154],[]⟩,⟨83,[],[84,39,44,45,46,48,49,69,74,77,97,103,129,137,141,145,150,151,152,153,154,160,184,200,209,237,238,239,240,241,242,243,244,268,276,278,305,307,308,324,335,338,343,345,346],[83,205]⟩,⟨16,[9],[42],[]⟩,⟨17,[9],[43,44,45,46,39,48,49,69,74,77,97,103,129,137,141,145,150,151,152,153,154,160,184,200,209,237,238,239,240,241,242,243,244,268,276,278,305,307,308,324,335,338,343,345,346],[83,205]⟩,⟨186,[],[237,238,239,240,241,242,243,244],[]⟩,⟨121,[],[112],[]⟩,⟨63,[0,4],[111,112],[]⟩,⟨193,[],[247],[]⟩,⟨194,[],[248],[]⟩,⟨195,[],[193,194,249,250,251,252,253,254,255,256],[]⟩,⟨196,[],[128],[]⟩,⟨197,[9],[87,257],[]⟩,⟨198,[],[],[]⟩,⟨199,[],[258],[]⟩,⟨200,[],[],[]⟩,⟨201,[10],[259],[]⟩,⟨202,[],[260],[]⟩,⟨203,[],[261,262,263],[]⟩,⟨204,[11],[261,262,264,265,266,267,268,269,270],[]⟩,⟨205,[],[],[]⟩,⟨206,[],[],[]⟩,⟨207,[],[39,44,45,46,48,49,69,74,77,97,103,129,137,141,145,150,151,152,153,154,160,184,200,209,237,238,239,240,241,242,243,244,268,276,278,305,307,308,324,335,338,343,345,346],[83,205]⟩,⟨208,[],[39,44,45,46,48,49,69,74,77,97,103,129,137,141,145,150,151,152,153,154,160,184,200,209,237,238,239,240,241,242,243,244,268,276,278,305,307,308,324,335,338,343,345,346],[83,205]⟩,⟨209,[],[],[]⟩,⟨210,[],[112,214],[]⟩,⟨150,[],[53,54,111,212,213],[]⟩,⟨151,[],[53,150,214],[]⟩,⟨152,[],[53,111,215],[]⟩,⟨153,[0],[53,111,216],[]⟩,⟨154,[5],[53,111,215,217],[]⟩,⟨84,[],[155,156],[]⟩,⟨42,[],[],[]⟩,⟨43,[0,12,13],[88,89,90,39,44,45,46,48,49,69,74,77,97,103,129,137,141,145,150,151,152,153,154,160,184,200,209,237,238,239,240,241,242,243,244,268,276,278,305,307,308,324,335,338,343,345,346],[83,205]⟩,⟨44,[14],[89,93],[]⟩,⟨45,[9,2,15,5,1,10],[97,39,44,45,46,48,49,69,74,77,103,129,137,141,145,150,151,152,153,154,160,184,200,209,237,238,239,240,241,242,243,244,268,276,278,305,307,308,324,335,338,343,345,346],[83,205]⟩,⟨46,[9,16],[102,103,105,106,107],[]⟩,⟨237,[4,17],[289],[]⟩,⟨238,[],[289],[]⟩,⟨239,[4],[],[]⟩,⟨240,[],[],[]⟩,⟨241,[],[],[]⟩,⟨242,[],[],[]⟩,⟨243,[4],[],[]⟩,⟨244,[],[],[]⟩,⟨247,[],[291],[]⟩,⟨248,[],[],[]⟩,⟨249,[],[193,194,247,292],[]⟩,⟨250,[],[28],[]⟩,⟨251,[],[127,193,248],[]⟩,⟨252,[],[255,293],[]⟩,⟨253,[18],[294,296,297],[]⟩,⟨254,[],[128,196,297,298,299,300,301],[]⟩,⟨255,[],[299,302],[]⟩,⟨256,[],[127,128,194,196,251,252,292,293],[]⟩,⟨87,[],[157],[]⟩,⟨257,[],[85,178],[]⟩,⟨258,[],[39,44,45,46,48,49,69,74,77,97,103,129,137,141,145,150,151,152,153,154,160,184,200,209,237,238,239,240,241,242,243,244,268,276,278,305,307,308,324,335,338,343,345,346],[83,205]⟩,⟨259,[9],[],[]⟩,⟨260,[],[],[]⟩,⟨261,[],[303],[]⟩,⟨262,[],[],[]⟩,⟨263,[],[],[]⟩,⟨264,[19],[262,266,268,304,305,306,307,39,44,45,46,48,49,69,74,77,97,103,129,137,141,145,150,151,152,153,154,160,184,200,209,237,238,239,240,241,242,243,244,276,278,308,324,335,338,343,345,346],[83,205]⟩,⟨265,[12,13],[165,182,262],[]⟩,⟨266,[],[],[]⟩,⟨267,[],[262,266,268,306,308],[]⟩,⟨268,[],[308],[]⟩,⟨269,[4],[266,268,304,306],[]⟩,⟨270,[11],[266],[]⟩,⟨214,[],[],[]⟩,⟨212,[20],[275,276],[]⟩,⟨213,[],[275,278],[]⟩,⟨215,[],[],[]⟩,⟨216,[12,13,5],[113,182,213],[]⟩,⟨217,[],[112,279],[]⟩,⟨155,[],[218],[]⟩,⟨156,[12,13],[90,164],[]⟩,⟨88,[11,21],[89,93],[]⟩,⟨89,[],[160],[]⟩,⟨90,[22,23],[],[]⟩,⟨93,[],[39,44,45,46,48,49,69,74,77,97,103,129,137,141,145,150,151,152,153,154,160,184,200,209,237,238,239,240,241,242,243,244,268,276,278,305,307,308,324,335,338,343,345,346],[83,205]⟩,⟨97,[],[89,93],[]⟩,⟨102,[12,13,24],[90,164,178,180,181,182,39,44,45,46,48,49,69,74,77,97,103,129,137,141,145,150,151,152,153,154,160,184,200,209,237,238,239,240,241,242,243,244,268,276,278,305,307,308,324,335,338,343,345,346],[83,205]⟩,⟨103,[25],[],[]⟩,⟨105,[],[93,184],[]⟩,⟨106,[],[89,93,185],[]⟩,⟨107,[],[89,185,39,44,45,46,48,49,69,74,77,97,103,129,137,141,145,150,151,152,153,154,160,184,200,209,237,238,239,240,241,242,243,244,268,276,278,305,307,308,324,335,338,343,345,346],[83,205]⟩,⟨289,[],[],[]⟩,⟨291,[],[],[]⟩,⟨292,[],[],[]⟩,⟨293,[],[128,196],[]⟩,⟨294,[18],[318,319,320],[]⟩,⟨296,[],[322],[]⟩,⟨297,[],[],[]⟩,⟨298,[],[323,324,325],[]⟩,⟨299,[],[],[]⟩,⟨300,[],[326],[136]⟩,⟨301,[18],[299,300],[]⟩,⟨302,[],[327],[31,328]⟩,⟨157,[],[219,220,221,222],[]⟩,⟨85,[],[],[]⟩,⟨178,[],[234],[]⟩,⟨303,[],[247],[]⟩,⟨304,[],[],[]⟩,⟨305,[],[263],[]⟩,⟨306,[],[262,39,44,45,46,48,49,69,74,77,97,103,129,137,141,145,150,151,152,153,154,160,184,200,209,237,238,239,240,241,242,243,244,268,276,278,305,307,308,324,335,338,343,345,346],[83,205]⟩,⟨307,[],[],[]⟩,⟨165,[],[],[]⟩,⟨182,[22,23],[],[]⟩,⟨308,[],[],[]⟩,⟨275,[],[39,44,45,46,48,49,69,74,77,97,103,129,137,141,145,150,151,152,153,154,160,184,200,209,237,238,239,240,241,242,243,244,268,276,278,305,307,308,324,335,338,343,345,346],[83,205]⟩,⟨276,[],[],[]⟩,⟨278,[],[],[]⟩,⟨279,[],[225,282],[]⟩,⟨218,[9,12,13],[87,90,164,178],[]⟩,⟨164,[22,23,26],[],[]⟩,⟨160,[17],[],[]⟩,⟨180,[22,23],[235],[]⟩,⟨181,[],[],[]⟩,⟨184,[],[],[]⟩,⟨185,[],[89,93],[]⟩,⟨318,[18],[],[]⟩,⟨319,[],[247],[]⟩,⟨320,[],[319],[]⟩,⟨322,[],[334,335],[]⟩,⟨323,[],[336,39,44,45,46,48,49,69,74,77,97,103,129,137,141,145,150,151,152,153,154,160,184,200,209,237,238,239,240,241,242,243,244,268,276,278,305,307,308,324,335,338,343,345,346],[83,205]⟩,⟨324,[],[],[]⟩,⟨325,[],[],[]⟩,⟨326,[],[],[]⟩,⟨327,[],[337,338],[]⟩,⟨328,[],[],[]⟩,⟨219,[],[280],[]⟩,⟨220,[],[],[]⟩,⟨221,[],[],[]⟩,⟨222,[],[281],[]⟩,⟨234,[],[],[]⟩,⟨225,[],[283,284,285,286],[]⟩,⟨282,[],[315],[]⟩,⟨235,[],[288],[]⟩,⟨334,[],[341,39,44,45,46,48,49,69,74,77,97,103,129,137,141,145,150,151,152,153,154,160,184,200,209,237,238,239,240,241,242,243,244,268,276,278,305,307,308,324,335,338,343,345,346],[83,205]⟩,⟨335,[],[],[]⟩,⟨336,[],[],[]⟩,⟨337,[],[342,39,44,45,46,48,49,69,74,77,97,103,129,137,141,145,150,151,152,153,154,160,184,200,209,237,238,239,240,241,242,243,244,268,276,278,305,307,308,324,335,338,343,345,346],[83,205]⟩,⟨338,[],[337,343],[]⟩,⟨280,[],[],[]⟩,⟨281,[],[],[]⟩,⟨283,[],[316],[]⟩,⟨284,[],[316],[]⟩,⟨285,[20],[316,317],[]⟩,⟨286,[20],[316,317],[]⟩,⟨315,[],[331,332],[]⟩,⟨288,[],[],[]⟩,⟨341,[],[323,345],[]⟩,⟨342,[],[],[]⟩,⟨343,[],[337,346],[]⟩,⟨316,[],[],[]⟩,⟨317,[],[],[]⟩,⟨331,[],[],[]⟩,⟨332,[],[331],[]⟩,⟨345,[],[],[]⟩,⟨346,[],[319,342,349],[]⟩,⟨349,[],[294,319,326,327,342],[136]⟩]
def zn9:List RunRow:=RowN.rows libs19 zyV
def zto:List FuncId:=[29,30,31,83,133,134,136,202,205,328]
def zAj(g:FuncId):Bool:=Am.memN g []
theorem zlT:zn9.all RunRow.good=true:=by kernel_rfl
theorem ztf:zn9.all (RunRow.quietAll zto)=true:=by kernel_rfl
def zzL(ms:List Mm)(h:ms.all (Mm.good zto)=true):RunW:=RunRow.runW zn9 zto zAj 4000 zlT ztf ms h
end Go.Proofs.C06
end
section
set_option maxRecDepth 100000
set_option maxHeartbeats 40000000
namespace Go.Proofs.C06
open Go Go.RowKit Go.Vc Go.Am
def qH:List AV:=[.ptr 0 0]
def zU:AV:=.bool true
def zqd:AV:=.str [65,32,62,32,66,32,65,78,68,32,60,32,53]
def yy:AV:=.rwc 1 3 (0) (1)
def zf:AV:=.int .i64 (0)
def zy:AV:=.int .i64 (1)
def Wo:AV:=.int .i64 (8)
def yx:Option AO:=some (.vals 237 3 [.agg [zf,zy,Wo]])
def ju:AV:=.int .u8 (1)
def zdd:AV:=.agg [ju,.str [65],zy,Wo,zU]
def yz:AV:=.int .u8 (5)
def zcm:AV:=.int .i64 (10)
def ztT:AV:=.agg [yz,.str [62],zy,zcm,zU]
def WZ:AV:=.int .i64 (12)
def zd:AV:=.bool false
def zju:AV:=.agg [ju,.str [66],zy,WZ,zd]
def ztS:Heap:=[some (.cells 242 [zU,zqd,yy,.int .i64 (6),.rw 2]),yx,some (.vals 116 5 [zdd,ztT,zju])]
def zjt:AV:=.str [65,78,68]
def zZ:AV:=.int .i64 (3)
def ztR:AV:=.tup [.agg [ju,zjt,zf,zf,zd],zZ,zf]
def zj0:Mm:=⟨204,qH,ztS,⟨ztR,ztS⟩⟩
def Kb:AV:=.agg [zf,zf,zf]
def zcl:AV:=.int .i64 (14)
def jX:AV:=.int .u8 (2)
def zou:AV:=.agg [jX,.str [53],zy,.int .i64 (20),zd]
def zjs:List AV:=[zdd,ztT,zju,.agg [ju,zjt,zy,zcl,zd],.agg [yz,.str [60],zy,.int .i64 (18),zd],zou]
def zjZ:Mm:=⟨135,qH,[some (.cells 242 [zU,zqd,yy,zf,.nils]),yx],⟨Kb,[some (.cells 242 [zU,zqd,yy,.int .i64 (13),.rw 2]),yx,some (.vals 116 5 zjs)]⟩⟩
def ztQ:List AV:=[.ptr 0 0,.fn 129 qH [],zjt,ju]
def jg:AV:=.int .u8 (0)
def zH:AV:=.int .i64 (-1)
def zck:AV:=.int .i64 (5)
def YI:AV:=.int .u8 (4)
def zjr:AV:=.str [57,57,57]
def zfC:AV:=.str [66,73,71]
def Ka:Option AO:=some (.gens 113 true 22 3 [.str [82],zy,zH,jg,jg,.str [],zf,zf,zd,zd,zd,zd,zd,zZ,zf,zy,zf,zH,zH,zH,zH,.nils,.str [67],zck,zf,YI,jg,zjr,zZ,zf,zd,zd,zd,zd,zd,zZ,zf,zy,zf,zH,zH,zH,zH,.nils,zfC,.int .i64 (88),zy,jg,jg,.str [],zf,zf,zd,zd,zd,zd,zd,zf,zf,zy,zf,zH,zH,zH,zH,.rw 2])
def zot:AV:=.agg [jX,.str [49,48,48],zf,zf,zd]
def zos:AV:=.agg [jX,.str [50,48,48],zf,zf,zd]
def zor:AV:=.agg [jX,.str [53],zf,zf,zd]
def JD:Option AO:=some (.vals 116 5 [zot,.agg [ju,.str [84,72,82,85],zf,zf,zd],zos,zor])
def QZ:AV:=.int .i64 (2)
def WY:AV:=.int .u8 (6)
def ztP:List AV:=[.agg [WY,zf,zy],.agg [YI,zf,QZ],.agg [ju,zf,zy]]
def Zf:AV:=.rov true 3 [.agg [ju,zf,zf]]
def zjq:AV:=.rov true 5 [zdd]
def zoq:AV:=.agg [Zf,.rov true 1 [zjq]]
def ztO:List AV:=[zoq,.agg [Zf,.rov true 1 [.rov true 5 [zju]]],.agg [Zf,.rov true 1 [.rov true 5 [zou]]]]
def ztN:List AV:=[zjq,.rov true 5 [zju],.rov true 5 [zou]]
def zjY:Mm:=⟨68,ztQ,[some (.cells 87 [.rw 1,zZ,.rov true 5 zjs,zf,zf,zd,zf,jg,zd,.nils,.nils,.nils]),Ka,JD],⟨.tup [QZ,zf],[some (.cells 87 [.rw 1,zZ,.rov true 5 zjs,.int .i64 (6),zf,zU,zf,YI,zd,.rw 3,.rw 4,.rw 5]),Ka,JD,some (.vals 91 3 ztP),some (.vals 95 2 ztO),some (.vals 52 1 ztN)]⟩⟩
def zjX:Mm:=⟨15,[.agg [.rov true 3 ztP,.rov true 2 ztO,.rov true 1 ztN]],[],⟨.str [40,32,40,32,65,32,62,32,66,32,41,32,65,78,68,32,40,32,65,32,60,32,53,32,41,32,41],[]⟩⟩
def WX:AV:=.str [65,32,61,32,49,32,79,82,32,50,32,65,78,68,32,78,79,84,32,62,32,51]
def JC:AV:=.agg [yz,.str [61],zy,zcm,zU]
def X9:AV:=.agg [jX,.str [49],zy,WZ,zd]
def zjp:AV:=.agg [ju,.str [79,82],zy,zcl,zd]
def zcj:AV:=.agg [jX,.str [50],zy,.int .i64 (17),zd]
def zop:AV:=.agg [ju,zjt,zy,.int .i64 (19),zd]
def ztM:Heap:=[some (.cells 242 [zU,WX,yy,.int .i64 (15),.rw 2]),yx,some (.vals 116 5 [zdd,JC,X9,zjp,zcj,zop])]
def zjo:AV:=.str [78,79,84]
def zjW:Mm:=⟨204,qH,ztM,⟨.tup [.agg [ju,zjo,zf,zf,zd],zZ,zf],ztM⟩⟩
def ztL:Heap:=[some (.cells 242 [zU,WX,yy,.int .i64 (11),.rw 2]),yx,some (.vals 116 5 [zdd,JC,X9,zjp,zcj])]
def zjV:Mm:=⟨204,qH,ztL,⟨ztR,ztL⟩⟩
def ztK:Heap:=[some (.cells 242 [zU,WX,yy,.int .i64 (6),.rw 2]),yx,some (.vals 116 5 [zdd,JC,X9])]
def zjU:Mm:=⟨204,qH,ztK,⟨.tup [.agg [ju,.str [79,82],zf,zf,zd],QZ,zf],ztK⟩⟩
def ztJ:AV:=.agg [ju,zjo,zy,.int .i64 (23),zd]
def ztI:Heap:=[some (.cells 242 [zU,WX,yy,.int .i64 (19),.rw 2]),yx,some (.vals 116 5 [zdd,JC,X9,zjp,zcj,zop,ztJ])]
def zjT:Mm:=⟨204,qH,ztI,⟨.tup [.agg [yz,.str [62],zf,zf,zd],zy,zf],ztI⟩⟩
def zoo:Heap:=[some (.cells 242 [zU,WX,yy,zf,.nils]),yx]
def zjS:Mm:=⟨204,qH,zoo,⟨.tup [.agg [ju,.str [65],zf,zf,zd],zy,zf],zoo⟩⟩
def zon:AV:=.agg [jX,.str [51],zy,.int .i64 (29),zd]
def ztH:List AV:=[zdd,JC,X9,zjp,zcj,zop,ztJ,.agg [yz,.str [62],zy,.int .i64 (27),zd],zon]
def zjR:Mm:=⟨135,qH,zoo,⟨Kb,[some (.cells 242 [zU,WX,yy,.int .i64 (22),.rw 2]),yx,some (.vals 116 5 ztH)]⟩⟩
def zfB:AV:=.rov true 5 ztH
def zci:AV:=.int .i64 (4)
def ztG:Option AO:=some (.gens 113 true 22 3 [.str [82],zy,zH,jg,jg,.str [],zf,zf,zd,zd,zd,zd,zd,zZ,zf,zy,zf,zH,zH,zH,zH,.nils,.str [67],zck,zf,YI,jg,zjr,zZ,zf,zd,zd,zd,zd,zd,zZ,zf,zy,zf,zH,zH,zH,zH,.nils,zfC,.int .i64 (88),zy,jg,jg,.str [],zf,zf,zd,zd,zd,zd,zd,zf,zf,zy,zf,zH,zH,zH,zH,.rw 5])
def zfA:AV:=.agg [yz,zf,zy]
def ztF:AV:=.agg [Zf,.rov true 1 [.rov true 5 [X9]]]
def zom:AV:=.agg [.int .u8 (3),QZ,zf]
def zol:AV:=.agg [ju,zy,zZ]
def zok:List AV:=[zoq,ztF,.agg [Zf,.rov true 1 [.rov true 5 [zcj]]],.agg [Zf,.rov true 1 [.rov true 5 [zon]]]]
def zoj:List AV:=[zjq,.rov true 5 [X9],.rov true 5 [zcj],.rov true 5 [zon]]
def zeS:Mm:=⟨68,ztQ,[some (.cells 87 [.rw 1,zZ,zfB,zci,zf,zU,zf,yz,zd,.rw 2,.rw 3,.rw 4]),ztG,some (.vals 91 3 [zfA]),some (.vals 95 2 [zoq,ztF]),some (.vals 52 1 [zjq,.rov true 5 [X9]]),JD],⟨.tup [zci,zf],[some (.cells 87 [.rw 1,zZ,zfB,.int .i64 (9),zf,zU,zf,WY,zU,.rw 6,.rw 7,.rw 8]),ztG,none,none,none,JD,some (.vals 91 3 [zfA,.agg [yz,zf,QZ],.agg [WY,zf,zZ],zom,zol]),some (.vals 95 2 zok),some (.vals 52 1 zoj)]⟩⟩
def ztE:List AV:=[.ptr 0 0,.fn 69 qH [],.str [79,82],jX]
def ztD:List AV:=[zfA,.agg [yz,zf,QZ],.agg [WY,zf,zZ],zom,zol,.agg [jX,zf,zci]]
def zeR:Mm:=⟨68,ztE,[some (.cells 87 [.rw 1,zZ,zfB,zf,zf,zd,zf,jg,zd,.nils,.nils,.nils]),Ka,JD],⟨.tup [zck,zf],[some (.cells 87 [.rw 1,zZ,zfB,.int .i64 (9),zf,zU,zf,WY,zU,.rw 3,.rw 4,.rw 5]),Ka,JD,some (.vals 91 3 ztD),some (.vals 95 2 zok),some (.vals 52 1 zoj)]⟩⟩
def ztC:List AV:=[.rov true 3 ztD,.rov true 2 zok,.rov true 1 zoj]
def ztB:Option AO:=some (.cells 120 [.fn 39 [] [.ptr 0 0,.ptr 1 0,.ptr 2 0]])
def ztA:Option AO:=some (.mp [(ju,.str [32,65,78,68,32]),(jX,.str [32,79,82,32]),(YI,.str [32,60,32]),(yz,.str [32,61,32]),(WY,.str [32,62,32]),(.int .u8 (7),.str [32,73,83,32,78,85,77,69,82,73,67]),(.int .u8 (8),.str [32,73,83,32,65,76,80,72,65,66,69,84,73,67]),(.int .u8 (9),.str [32,73,83,32,80,79,83,73,84,73,86,69]),(.int .u8 (10),.str [32,73,83,32,78,69,71,65,84,73,86,69]),(.int .u8 (11),.str [32,73,83,32,90,69,82,79])])
def ztz:Heap:=[some (.cells 46 ztC),ztB,some (.cells 118 [.map 3]),ztA]
def zty:AV:=.str [40,32,40,32,65,32,61,32,49,32,41,32,79,82,32,40,32,40,32,65,32,61,32,50,32,41,32,65,78,68,32,40,32,78,79,84,32,40,32,65,32,62,32,51,32,41,32,41,32,41,32,41]
def zeQ:Mm:=⟨39,[zck,.ptr 0 0,.ptr 1 0,.ptr 2 0],ztz,⟨zty,ztz⟩⟩
def zjn:AV:=.str [78,79,84,32,65,32,73,83,32,78,79,84,32,78,85,77,69,82,73,67]
def ztx:AV:=.agg [ju,zjo,zy,Wo,zU]
def zjm:AV:=.agg [ju,.str [65],zy,WZ,zd]
def ztw:AV:=.agg [ju,.str [73,83],zy,zcl,zd]
def ztv:AV:=.agg [ju,zjo,zy,.int .i64 (17),zd]
def ztu:Heap:=[some (.cells 242 [zU,zjn,yy,.int .i64 (13),.rw 2]),yx,some (.vals 116 5 [ztx,zjm,ztw,ztv])]
def ztt:AV:=.str [78,85,77,69,82,73,67]
def zeP:Mm:=⟨204,qH,ztu,⟨.tup [.agg [ju,ztt,zf,zf,zd],.int .i64 (7),zf],ztu⟩⟩
def zoi:List AV:=[ztx,zjm,ztw,ztv,.agg [ju,ztt,zy,.int .i64 (21),zd]]
def zeO:Mm:=⟨135,qH,[some (.cells 242 [zU,zjn,yy,zf,.nils]),yx],⟨Kb,[some (.cells 242 [zU,zjn,yy,.int .i64 (20),.rw 2]),yx,some (.vals 116 5 zoi)]⟩⟩
def zjl:AV:=.str [40,32,65,32,43,32,66,32,41,32,62,61,32,50]
def zoh:AV:=.agg [yz,.str [40],zy,Wo,zU]
def WV:AV:=.agg [ju,.str [65],zy,zcm,zU]
def zts:AV:=.agg [yz,.str [43],zy,WZ,zd]
def ztr:Heap:=[some (.cells 242 [zU,zjl,yy,.int .i64 (6),.rw 2]),yx,some (.vals 116 5 [zoh,WV,zts])]
def zeN:Mm:=⟨204,qH,ztr,⟨.tup [.agg [ju,.str [66],zf,zf,zd],zy,zf],ztr⟩⟩
def zog:AV:=.agg [ju,.str [66],zy,zcl,zd]
def zof:AV:=.agg [jX,.str [50],zy,.int .i64 (21),zd]
def zjk:List AV:=[zoh,WV,zts,zog,.agg [yz,.str [41],zy,.int .i64 (16),zd],.agg [yz,.str [62,61],zy,.int .i64 (18),zd],zof]
def zeM:Mm:=⟨135,qH,[some (.cells 242 [zU,zjl,yy,zf,.nils]),yx],⟨Kb,[some (.cells 242 [zU,zjl,yy,zcl,.rw 2]),yx,some (.vals 116 5 zjk)]⟩⟩
def zjj:AV:=.agg [YI,zf,zy]
def zji:AV:=.agg [.int .u8 (3),zf,zf]
def ztq:List AV:=[.agg [.rov true 3 [.agg [ju,zf,zf],.agg [ju,zy,zf],.agg [jX,zf,zy]],.rov true 1 [.rov true 5 [WV],.rov true 5 [zog]]],.agg [Zf,.rov true 1 [.rov true 5 [zof]]]]
def ztp:List AV:=[.rov true 5 [WV],.rov true 5 [zog],.rov true 5 [zof]]
def zeL:Mm:=⟨195,qH,[some (.cells 87 [.rw 1,zZ,.rov true 5 zjk,zf,zf,zd,zf,jg,zd,.nils,.nils,.nils]),Ka,JD],⟨.tup [zy,zf],[some (.cells 87 [.rw 1,zZ,.rov true 5 zjk,.int .i64 (7),zf,zU,zf,YI,zU,.rw 3,.rw 4,.rw 5]),Ka,JD,some (.vals 91 3 [zjj,zji]),some (.vals 95 2 ztq),some (.vals 52 1 ztp)]⟩⟩
def zoe:AV:=.str [40,32,65,32,90,69,82,79,32,41]
def zch:AV:=.agg [ju,.str [90,69,82,79],zy,WZ,zd]
def zjh:List AV:=[zoh,WV,zch,.agg [yz,.str [41],zy,.int .i64 (17),zd]]
def zeK:Mm:=⟨135,qH,[some (.cells 242 [zU,zoe,yy,zf,.nils]),yx],⟨Kb,[some (.cells 242 [zU,zoe,yy,zcm,.rw 2]),yx,some (.vals 116 5 zjh)]⟩⟩
def zeJ:Mm:=⟨68,ztE,[some (.cells 87 [.rw 1,zZ,.rov true 5 zjh,zf,zf,zd,zf,jg,zd,.nils,.nils,.nils]),Ka,JD],⟨.tup [zf,zf],[some (.cells 87 [.rw 1,zZ,.rov true 5 zjh,zci,zf,zd,zf,jg,zd,.rw 3,.rw 4,.rw 5]),Ka,JD,some (.vals 91 3 [.agg [.int .u8 (11),zf,zf]]),some (.vals 95 2 [.agg [Zf,.rov true 1 [.rov true 5 [WV]]]]),some (.vals 52 1 [.rov true 5 [WV]])]⟩⟩
def zjg:AV:=.rov false 3 [.agg [ju,zf,zf]]
def zqo:AV:=.rov true 5 [.agg [ju,.str [67],zy,Wo,zd],.agg [ju,.str [79,70],zy,Wo,zd],.agg [ju,.str [82],zy,Wo,zd]]
def zjB:List AV:=[.rov true 3 [zjj,zji,.agg [WY,zf,QZ],zom,zol,.agg [yz,zf,zZ],.agg [jX,zci,zck]],.rov true 2 [.agg [zjg,.rov false 1 [zqo]],.agg [zjg,.rov false 1 [.rov true 5 [zot]]],.agg [zjg,.rov false 1 [.rov true 5 [zos]]],.agg [zjg,.rov false 1 [.rov true 5 [zor]]]],.rov true 1 [zqo,.rov true 5 [zot],.rov true 5 [zos],.rov true 5 [zor]]]
def zqn:Heap:=[some (.cells 46 zjB),ztB,some (.cells 118 [.map 3]),ztA]
def zeI:Mm:=⟨39,[zci,.ptr 0 0,.ptr 1 0,.ptr 2 0],zqn,⟨.str [40,32,40,32,78,79,84,32,40,32,67,32,79,70,32,82,32,60,32,49,48,48,32,41,32,41,32,65,78,68,32,40,32,78,79,84,32,40,32,67,32,79,70,32,82,32,62,32,50,48,48,32,41,32,41,32,41],zqn⟩⟩
def zeH:Mm:=⟨15,[.agg zjB],[],⟨.str [40,32,40,32,40,32,78,79,84,32,40,32,67,32,79,70,32,82,32,60,32,49,48,48,32,41,32,41,32,65,78,68,32,40,32,78,79,84,32,40,32,67,32,79,70,32,82,32,62,32,50,48,48,32,41,32,41,32,41,32,79,82,32,40,32,67,32,79,70,32,82,32,61,32,53,32,41,32,41],[]⟩⟩
def zeG:Mm:=⟨7,[.agg [jX,jg,.str [88,88],zf,zf,zd,zd,zd,zd,zd,QZ,.rob false [48,55]],.agg [YI,jg,zjr,zZ,zf,zd,zd,zd,zd,zd,zZ,.rw 0]],[some (.bytes 5 [48,48,55])],⟨.tup [zy,zf],[some (.bytes 5 [48,48,55])]⟩⟩
def zjA:AV:=.str [84,32,61,32,83,80,65,67,69,83]
def Yh:AV:=.agg [ju,.str [84],zy,Wo,zU]
def zaT:AV:=.agg [ju,.str [83,80,65,67,69,83],zy,WZ,zd]
def zeF:Mm:=⟨135,qH,[some (.cells 242 [zU,zjA,yy,zf,.nils]),yx],⟨Kb,[some (.cells 242 [zU,zjA,yy,zcm,.rw 2]),yx,some (.vals 116 5 [Yh,JC,zaT])]⟩⟩
def zjz:AV:=.str [84,32,60,32,72,73,71,72,45,86,65,76,85,69]
def zjy:AV:=.agg [ju,.str [72,73,71,72,45,86,65,76,85,69],zy,WZ,zd]
def zjx:List AV:=[Yh,.agg [yz,.str [60],zy,zcm,zU],zjy]
def zeE:Mm:=⟨135,qH,[some (.cells 242 [zU,zjz,yy,zf,.nils]),yx],⟨Kb,[some (.cells 242 [zU,zjz,yy,zcl,.rw 2]),yx,some (.vals 116 5 zjx)]⟩⟩
def zjw:AV:=.str [84,32,61,32,90,69,82,79]
def zeD:Mm:=⟨135,qH,[some (.cells 242 [zU,zjw,yy,zf,.nils]),yx],⟨Kb,[some (.cells 242 [zU,zjw,yy,Wo,.rw 2]),yx,some (.vals 116 5 [Yh,JC,zch])]⟩⟩
def zaS:AV:=.agg [.rw 0,zZ]
def Zu:Heap:=[some (.gens 113 true 22 3 [.str [82],zy,zH,jg,jg,.str [],zf,zf,zd,zd,zd,zd,zd,zZ,zf,zy,zf,zH,zH,zH,zH,.nils,.str [67],zck,zf,YI,jg,zjr,zZ,zf,zd,zd,zd,zd,zd,zZ,zf,zy,zf,zH,zH,zH,zH,.nils,zfC,.int .i64 (88),zy,jg,jg,.str [],zf,zf,zd,zd,zd,zd,zd,zf,zf,zy,zf,zH,zH,zH,zH,.rw 1]),JD]
def zea:AV:=.rov true 5 [Yh]
def zjv:AV:=.agg [Zf,.rov true 1 [zea]]
def zqm:AV:=.agg [.rov true 3 [zfA],.rov true 2 [zjv,.agg [Zf,.rov true 1 [.rov true 5 [zch]]]],.rov true 1 [zea,.rov true 5 [zch]]]
def zeC:Mm:=⟨9,[zaS,.rov true 5 [Yh,JC,zch]],Zu,⟨.tup [zqm,zf],Zu⟩⟩
def zql:AV:=.agg [.rov true 3 [zjj],.rov true 2 [zjv,.agg [Zf,.rov true 1 [.rov true 5 [zjy]]]],.rov true 1 [zea,.rov true 5 [zjy]]]
def zeB:Mm:=⟨9,[zaS,.rov true 5 zjx],Zu,⟨.tup [zql,zf],Zu⟩⟩
def zqk:AV:=.agg [.rov true 3 [zfA],.rov true 2 [zjv,.agg [Zf,.rov true 1 [.rov true 5 [zaT]]]],.rov true 1 [zea,.rov true 5 [zaT]]]
def zeA:Mm:=⟨9,[zaS,.rov true 5 [Yh,JC,zaT]],Zu,⟨.tup [zqk,zf],Zu⟩⟩
def zqj:AV:=.rov true 5 [.agg [ju,zfC,zy,Wo,zU]]
def zez:Mm:=⟨10,[zfC],[],⟨zqj,[]⟩⟩
def zqi:AV:=.agg [.rov true 3 [.agg [.int .u8 (7),zf,zf],zji,.agg [.int .u8 (3),zy,zf]],.rov true 2 [.agg [Zf,.rov true 1 [.rov true 5 [zjm]]]],.rov true 1 [.rov true 5 [zjm]]]
def zey:Mm:=⟨9,[zaS,.rov true 5 zoi],Zu,⟨.tup [zqi,zf],Zu⟩⟩
def zex:Mm:=⟨9,[zaS,zqj],Zu,⟨.tup [.agg zjB,zf],Zu⟩⟩
def zqh:AV:=.agg [jX,jg,.str [88,88,88],zf,zf,zd,zd,zd,zd,zd,zZ,.rob false [32,32,32]]
def zqg:Heap:=[some (.vals 28 12 [zqh,.agg [jX,jg,.str [88],zf,zf,zd,zd,zd,zd,zd,zy,.rob false [32]]])]
def zew:Mm:=⟨11,[zqk,.rw 0],zqg,⟨.tup [zU,zf],zqg⟩⟩
def zqf:Heap:=[some (.vals 28 12 [zqh,.agg [jX,jg,.str [88],zf,zf,zd,zd,zd,zd,zd,zy,.rob false [255]]])]
def zev:Mm:=⟨11,[zql,.rw 0],zqf,⟨.tup [zU,zf],zqf⟩⟩
def zqe:Heap:=[some (.gens 28 true 12 2 [jX,jg,.str [88,88,88],zf,zf,zd,zd,zd,zd,zd,zZ,.rob false [32,32,32],YI,jg,.str [57],zy,zf,zd,zd,zd,zd,zd,zy,.rw 1]),some (.bytes 5 [48])]
def zeu:Mm:=⟨11,[zqm,.rw 0],zqe,⟨.tup [zd,zf],zqe⟩⟩
def zet:Mm:=⟨15,[.agg [.rov true 3 [zjj,zji],.rov true 2 ztq,.rov true 1 ztp]],[],⟨.str [40,32,78,79,84,32,40,32,40,32,65,32,43,32,66,32,41,32,60,32,50,32,41,32,41],[]⟩⟩
def zes:Mm:=⟨15,[.agg ztC],[],⟨zty,[]⟩⟩
def zer:Mm:=⟨7,[.agg [jX,jg,.str [88,88,88],zf,zf,zd,zd,zd,zd,zd,zZ,.rob false [65,66,32]],.agg [jX,jg,.str [88,88],zf,zf,zd,zd,zd,zd,zd,QZ,.rob false [65,66]]],[],⟨.tup [zf,zf],[]⟩⟩
def zeq:Mm:=⟨10,[WX],[],⟨zfB,[]⟩⟩
def zep:Mm:=⟨10,[zjn],[],⟨.rov true 5 zoi,[]⟩⟩
def zeo:Mm:=⟨15,[zqi],[],⟨.str [40,32,78,79,84,32,40,32,78,79,84,32,40,32,65,32,73,83,32,78,85,77,69,82,73,67,32,41,32,41,32,41],[]⟩⟩
def zen:Mm:=⟨10,[zjz],[],⟨.rov true 5 zjx,[]⟩⟩
def zem:Mm:=⟨10,[zjl],[],⟨.rov true 5 zjk,[]⟩⟩
def zel:Mm:=⟨10,[zqd],[],⟨.rov true 5 zjs,[]⟩⟩
def zek:Mm:=⟨10,[zjA],[],⟨.rov true 5 [Yh,JC,zaT],[]⟩⟩
def zej:Mm:=⟨10,[zoe],[],⟨.rov true 5 zjh,[]⟩⟩
def zei:Mm:=⟨10,[zjw],[],⟨.rov true 5 [Yh,JC,zch],[]⟩⟩
def zeh:Mm:=⟨5,[],[],⟨zU,[]⟩⟩
noncomputable def f19(ms:List Mm)(h:ms.all (Mm.good zto)=true)(m:Mm):Option Out:=zdM Tryz.prog zrX (zzL ms h) 30 m.g m.args m.h
end Go.Proofs.C06
end
