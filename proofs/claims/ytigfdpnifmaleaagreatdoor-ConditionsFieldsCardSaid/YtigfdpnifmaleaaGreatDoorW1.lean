/-
  A part of the proof of the laws.
-/
import Derived.Test.YtigfdpnifmaleaaGreatDoorS7
import Derived.Test.YtigfdpnifmaleaaGreatDoorIn
import Derived.Test.YtigfdpnifmaleaaGreatDoorLx
import Derived.Test.YtigfdpnifmaleaaGreatDoorSh
section
set_option maxHeartbeats 4000000
set_option maxRecDepth 100000
namespace Go.Proofs.C06
open Go Go.RowKit Go.Vc Go.Am
def zkr(_N:Nat)(x:Int):Option (Bool):=some (!decide (x=x))
def zpe(N:Nat):Con:=mkC 117 (cv (la (vI .u8) []) []) (ov_ vB []:Od (Bool)) fun x=>zkr N x
theorem zkq(N:Nat):SoundC Tryz.prog GP (zpe N):=
 fnS bas [] N 6 [] .nil Tryz.func117 rfl rfl (by kernel_rfl) (fun _=>by kernel_rfl) okN
def zeL(N:Nat)(x:Int)(y:Int):Option (Int):=bnd (zkr N x) fun rr=>bnd (zkr N y) fun rr1=>cond rr (cond rr1 (some 0) (some (-1))) (cond rr1 (some 1) (cond (decide (x<y)) (some (-1)) (cond (decide (y<x)) (some 1) (some 0))))
def znr(N:Nat):Con:=mkC 57 (cv (lc (vI .u8) (la (vI .u8) [])) []) (ov_ (vI .i64) []:Od (Int)) fun x=>zeL N x.1 x.2
theorem zhl(N:Nat):SoundC Tryz.prog GP (znr N):=
 fnS bas [kn (zkq N)] N 20 [] .nil Tryz.func57 rfl rfl (by kernel_rfl) (fun _=>by kernel_rfl) okN
def zbp(_N:Nat)(b:uBl)(i:Int):Option (Int):=cond (decide (((b).length:Int)<=i)) (some 32) (chk (inIx i (b).length)<|some (byteAt b i))
def znC(N:Nat):Con:=mkC 58 (cv (lc (vb false) (la (vI .i64) [])) []) (ov_ (vI .u8) []:Od (Int)) fun x=>zbp N x.1 x.2
theorem zhn(N:Nat):SoundC Tryz.prog GP (znC N):=
 fnS bas [] N 13 [] .nil Tryz.func58 rfl rfl (by kernel_rfl) (fun _=>by kernel_rfl) okN
def YT(N:Nat)(go0:uBl->uBl->Int->Int->Option (Int))(aa1:uBl)(b1:uBl)(t11:Int)(t12:Int):Option (Int):=cond (decide (t12<t11)) (bnd (zbp N aa1 t12) fun rr=>bnd (zbp N b1 t12) fun rr1=>bnd (zeL N rr rr1) fun rr2=>cond (!decide (rr2=0)) (some rr2) (chk (inKb .i64 (t12+1))<|go0 aa1 b1 t11 (t12+1))) (some 0)
def ZL(N:Nat):Nat->uBl->uBl->Int->Int->Option (Int)
 |0,_,_,_,_=>none
 |n+1,aa1,b1,t11,t12=>YT N (ZL N n) aa1 b1 t11 t12
def KS(N:Nat)(aa:uBl)(b:uBl):Option (Int):=ZL N N aa b (jt ((aa).length:Int) ((b).length:Int)) 0
def zk4(N:Nat):Con:=mkC 22 (cv (lc (vw false) (la (vw false) [])) []) (ov_ (vI .i64) []:Od (Int)) fun x=>KS N x.1 x.2
theorem KR(N:Nat):SoundC Tryz.prog GP (zk4 N):=
 fnS bas [kn (zhn N),kn (zhl N)] N 26 [lC (cv (lc (vb false) (lc (vb false) (lc (vI .i64) (la (vI .i64) [])))) []) (fun _ n x=>ZL N n x.1 x.2.1 x.2.2.1 x.2.2.2) fun _ _=>rfl] (.seq .nil (.seq (.seq .nil (.one (.loop 0 [0,1,11,12] .nil))) .nil)) Tryz.func22 rfl rfl (by kernel_rfl) (fun _=>by kernel_rfl) (ok0 (by kernel_rfl) (fun _ _=>by kernel_rfl) okN)
def zcU(N:Nat)(f:Field)(group:Bool):Option (uBl×Int):=cond (!decide (f.vD=4)) (some (f.vJ,0)) (cond group (some (f.vJ,0)) (cond (decide (0<f.vF)) (some ([],12)) (bnd (zrt N f) fun rr=>cond (!decide (rr.2=0)) (some ([],rr.2)) (chk (inKb .i64 (f.vG-f.vF))<|bnd (Vg N rr.1 (f.vG-f.vF) 0) fun rr1=>some (rr1.1,rr1.2)))))
def zrV(N:Nat):Con:=mkC 21 (cv (lc (va (jY (vw false))) (la vB [])) []) (ov_ (vt (lc (vw false) (la (vI .i64) []))) []:Od (uBl×Int)) fun x=>zcU N x.1 x.2
theorem zcT(N:Nat):SoundC Tryz.prog GP (zrV N):=
 fnS bas [kn (ze9 N),kn (Wa N)] N 45 [] .nil Tryz.func21 rfl rfl (by kernel_rfl) (fun _=>by kernel_rfl) okN
def yB(N:Nat)(t29:Bool)(b0:Field)(b1:Field):Option (Int×Int):=cond t29 (bnd (zrt N b0) fun rr2=>cond (!decide (rr2.2=0)) (some (0,rr2.2)) (bnd (zrt N b1) fun rr3=>cond (!decide (rr3.2=0)) (some (0,rr3.2)) (bnd (zbl N rr2.1 rr3.1) fun rr4=>some (rr4.1,rr4.2)))) (bnd (zcU N b0 (decide (b1.vD=0))) fun rr5=>cond (!decide (rr5.2=0)) (some (0,rr5.2)) (bnd (zcU N b1 (decide (b0.vD=0))) fun rr6=>cond (!decide (rr6.2=0)) (some (0,rr6.2)) (bnd (KS N rr5.1 rr6.1) fun rr7=>some (rr7,0))))
def jH(N:Nat)(aa:Field)(b:Field):Option (Int×Int):=bnd (jV N (Shape.mk aa.vD aa.vH aa.vK aa.vG aa.vF aa.vN aa.vO aa.vP aa.vQ aa.vR aa.vE)) fun rr=>cond (!decide (rr=0)) (some (0,1)) (bnd (jV N (Shape.mk b.vD b.vH b.vK b.vG b.vF b.vN b.vO b.vP b.vQ b.vR b.vE)) fun rr1=>cond (!decide (rr1=0)) (some (0,1)) (cond (!decide (((aa.vJ).length:Int)=aa.vE)) (some (0,5)) (cond (!decide (((b.vJ).length:Int)=b.vE)) (some (0,5)) (cond (decide (aa.vD=4)) (yB N (decide (b.vD=4)) aa b) (yB N false aa b)))))
def zjV(N:Nat):Con:=mkC 7 (cv (lc (va (jY (vb false))) (la (va (jY (vb false))) [])) []) (ov_ (vt (lc (vI .i64) (la (vI .i64) []))) []:Od (Int×Int)) fun x=>jH N x.1 x.2
theorem zfI(N:Nat):SoundC Tryz.prog GP (zjV N):=
 fnS bas (zzO bas [kn (yL N),kn (ze9 N),kn (zgw N),kn (zcT N),kn (KR N)] [18,47,108,48,49] 64 8) N 78 [kC (cb (ld (.ptr 0 0) (ld (.ptr 1 0) (la vB []))) (hc (oc 28 (jY (vb false))) (ha (oc 28 (jY (vb false))) []))) fun x=>yB N x.1 x.2.1 x.2.2] (.seq .nil (.seq .nil (.seq (.cut 0 [2,3,29] .nil .nil) .nil))) Tryz.func7 rfl rfl (by kernel_rfl) (fun _=>by kernel_rfl) (ok0 (by kernel_rfl) (fun _ _=>by kernel_rfl) okN)
end Go.Proofs.C06
end
section
set_option maxRecDepth 100000
set_option maxHeartbeats 4000000
namespace Go.Proofs.C06
open Go Go.RowKit Go.Vc Go.Am
section
variable {ρ : Rl} {X Y : Type}
def ldS(c:AV)(b:LC ρ X):LC ρ X:=⟨fun v=>match v with
 |u::r=>ZX (zcO u c) (b.d r)
 |[]=>none,fun x=>c::b.e x,b.n+1,fun x=>by rw[mK,b.hn],fun v x h=>by
  split at h
  ·obtain⟨h1,h2⟩:=jd h;rw[YZ _ _ h1];exact ρ.cons (ρ.rv _) (b.ok _ _ h2)
  ·cases h⟩
def vo1(f:Bool)(z:Nat)(l:LC rE X):VC ρ X:=⟨fun v=>match v with
 |.rov g y [.agg cs]=>ZX (decide (f=g)&&Nat.beq z y) (l.d cs)
 |_=>none,fun x=>.rov f z [.agg (l.e x)],fun v x h=>by
  split at h
  ·obtain⟨h1,h2⟩:=jd h;obtain⟨h1,h3⟩:=q6 h1;rw[of_decide_eq_true h1,mD h3];exact Rl.of (congrArg (fun x=>AV.rov _ _ [.agg x]) (l.ok _ _ h2))
  ·cases h⟩
def vo2(f:Bool)(z:Nat)(l:LC rE X)(m:LC rE Y):VC ρ (X×Y):=⟨fun v=>match v with
 |.rov g y [.agg cs,.agg ds]=>ZX (decide (f=g)&&Nat.beq z y) (two (l.d cs) (m.d ds))
 |_=>none,fun x=>.rov f z [.agg (l.e x.1),.agg (m.e x.2)],fun v x h=>by
  split at h
  ·obtain⟨h1,h2⟩:=jd h;obtain⟨h1,h3⟩:=q6 h1;rw[of_decide_eq_true h1,mD h3];obtain⟨h4,h5⟩:=zfa h2;rw[l.ok _ _ h4,m.ok _ _ h5];exact ρ.rv _
  ·cases h⟩
end
def tkA:AV:=.rov true 5 [.agg [.int .u8 (1),.str [65],.int .i64 (1),.int .i64 (8),.bool true]]
def lfX:AV:=.rov true 3 [.agg [.int .u8 (1),.int .i64 (0),.int .i64 (0)]]
def zyF:List AV:=[.agg [.int .u8 (1),.str [65],.int .i64 (1),.int .i64 (8),.bool true],.agg [.int .u8 (1),.str [78,85,77,69,82,73,67],.int .i64 (1),.int .i64 (10),.bool true]]
def zAZ:List AV:=[.agg [.int .u8 (7),.int .i64 (0),.int .i64 (0)]]
def zAY:List AV:=[.agg [lfX,.rov true 1 [tkA]]]
def zAX:List AV:=[tkA]
def zA0:AV:=.agg [.rov true 3 zAZ,.rov true 2 zAY,.rov true 1 zAX]
def zi4(N:Nat)(f:Field):Option (Bool×Int):=bnd (jV N (Shape.mk f.vD f.vH f.vK f.vG f.vF f.vN f.vO f.vP f.vQ f.vR f.vE)) fun r=>cond (!decide (r=0)) (some (false,1)) (cond (!decide (((f.vJ).length:Int)=f.vE)) (some (false,5)) (cond (decide (f.vD=4)) (bnd (ziY N f) fun r1=>some (decide (r1=0),0)) (bnd (QG N f.vJ) fun r1=>some (r1,0))))
def zlN(N:Nat):Con:=mkC 11 (cv (ldS zA0 (la (vo1 false 12 (jY (vb false))) [])) []) (ov_ (vt (lc vB (la (vI .i64) []))) []:Od (Bool×Int)) fun x=>zi4 N x
noncomputable def tKN(N:Nat):List (Kn Tryz.prog GP3):=zzO zbs [kn (up3 (yL N)),kn (up3 (ziX N)),kn (zdG N)] [33,72,137,73,138,74,75,139,205,76,77,140,141,34,142,206,79,18,47,108,48,49] 64 8
theorem zoc(N:Nat):SoundC Tryz.prog GP3 (zlN N):=
 fnS zbs (tKN N) N 59 [] .nil Tryz.func11 rfl rfl (by kernel_rfl) (fun _=>by kernel_rfl) okN
def tkS:AV:=.rov true 5 [.agg [.int .u8 (1),.str [83,80,65,67,69],.int .i64 (1),.int .i64 (12),.bool false]]
def zyE:List AV:=[.agg [.int .u8 (1),.str [65],.int .i64 (1),.int .i64 (8),.bool true],.agg [.int .u8 (5),.str [61],.int .i64 (1),.int .i64 (10),.bool true],.agg [.int .u8 (1),.str [83,80,65,67,69],.int .i64 (1),.int .i64 (12),.bool false]]
def zAV:List AV:=[.agg [.int .u8 (5),.int .i64 (0),.int .i64 (1)]]
def zAU:List AV:=[.agg [lfX,.rov true 1 [tkA]],.agg [lfX,.rov true 1 [tkS]]]
def zAT:List AV:=[tkA,tkS]
def zAW:AV:=.agg [.rov true 3 zAV,.rov true 2 zAU,.rov true 1 zAT]
def zi3(N:Nat)(f _g:Field):Option (Bool×Int):=bnd (jV N (Shape.mk f.vD f.vH f.vK f.vG f.vF f.vN f.vO f.vP f.vQ f.vR f.vE)) fun r=>cond (!decide (r=0)) (some (false,1)) (cond (!decide (((f.vJ).length:Int)=f.vE)) (some (false,5)) (bnd (zcU N f false) fun t=>cond (!decide (t.2=0)) (cond (decide (t.2=0)) (some (true,t.2)) (some (false,t.2))) (bnd (znI [32] (t.1.length:Int)) fun p=>bnd (KS N t.1 p) fun c=>some (decide (c=0),0))))
def zlM(N:Nat):Con:=mkC 11 (cv (ldS zAW (la (vo2 false 12 (jY (vb false)) (jY (vb false))) [])) []) (ov_ (vt (lc vB (la (vI .i64) []))) []:Od (Bool×Int)) fun x=>zi3 N x.1 x.2
noncomputable def tKS(N:Nat):List (Kn Tryz.prog GP3):=zzO zbs [kn (up3 (yL N)),kn (up3 (zcT N)),kn (up3 (ZV N)),kn (up3 (KR N))] [33,72,137,73,138,74,75,139,205,76,77,140,141,34,78,142,206,143,18,47,108,48,49] 64 8
theorem zob(N:Nat):SoundC Tryz.prog GP3 (zlM N):=
 fnS zbs (tKS N) N 59 [] .nil Tryz.func11 rfl rfl (by kernel_rfl) (fun _=>by kernel_rfl) okN
def zg5(N:Nat):Con:=zux (zlN N)
theorem zdp(N:Nat):SoundC Tryz.prog GP3 (zg5 N):=zfN zbs.hst (zoc N) (fun _ _=>⟨rfl,rfl⟩)
def zg4(N:Nat):Con:=zux (zlM N)
theorem zdo(N:Nat):SoundC Tryz.prog GP3 (zg4 N):=zfN zbs.hst (zob N) (fun _ _=>⟨rfl,rfl⟩)
def zmD:Mm:=⟨10,[.str [65,32,78,85,77,69,82,73,67]],[],⟨.rov true 5 zyF,[]⟩⟩
def zh4:Mm:=⟨9,[.agg [.nils,.int .i64 0],.rov true 5 zyF],[],⟨.tup [zA0,.int .i64 0],[]⟩⟩
def zmC:Mm:=⟨10,[.str [65,32,61,32,83,80,65,67,69]],[],⟨.rov true 5 zyE,[]⟩⟩
def zh3:Mm:=⟨9,[.agg [.nils,.int .i64 0],.rov true 5 zyE],[],⟨.tup [zAW,.int .i64 0],[]⟩⟩
def zlZ(_:Nat):Con:=zmD.con
def zjJ(_:Nat):Con:=zh4.con
def zlY(_:Nat):Con:=zmC.con
def zjI(_:Nat):Con:=zh3.con
end Go.Proofs.C06
end
