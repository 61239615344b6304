/-
  A part of the proof of the laws.
-/
import Derived.Lib.ParseIntB
import Derived.Test.YtannhfbidakffaaGreatDoorLx
import Derived.Test.YtannhfbidakffaaGreatDoorSh
import Derived.Test.YtannhfbidakffaaGreatDoorS6a
import Derived.Test.YtannhfbidakffaaGreatDoorS2
import Derived.Test.YtannhfbidakffaaGreatDoorIn
import Derived.Test.YtannhfbidakffaaGreatDoorMs21
import Derived.Test.YtannhfbidakffaaGreatDoorAm27
set_option maxHeartbeats 4000000
set_option maxRecDepth 1000000
namespace Go.Proofs.C06
open Go Go.RowKit Go.Vc Go.Am
def WY(l:uAU)(b z:Int):Option Int:=chk (decide (l.length<=9223372036854775806)&&(decide (b=10)&&decide (z=64))) (match Lib.parseIntB 64 l with
 |.ok v=>some v
 |_=>none)
def zem(vs:List AV)(h:Heap):Option (uAU×Int×Int):=match vs,h with
 |[.str s,.int .i64 b,.int .i64 z],[]=>some (s,b,z)
 |_,_=>none
theorem zy8(vs:List AV)(h:Heap)(x:uAU×Int×Int)(j:zem vs h=some x):vs=[.str x.1,.int .i64 x.2.1,.int .i64 x.2.2]/\h=[]:=by unfold zem at j;split at j<;>cases j;exact⟨rfl,rfl⟩
def zjq(_:Nat):Con:=Con6.c ⟨56,uAU×Int×Int,Int,zem,fun x=>WY x.1 x.2.1 x.2.2,fun _ r=>⟨.tup [.int .i64 r,.nili],[]⟩⟩
theorem zfn(N:Nat):SoundC Tryz.prog GP (zjq N):=zZ gd (fun x=>[.str x.1,.int .i64 x.2.1,.int .i64 x.2.2]) (fun x=>[.string (bs x.1),.int .i64 x.2.1,.int .i64 x.2.2]) (fun r=>.tuple #[.int .i64 r,.nilIface]) kR zy8 (fun _=>rfl) (fun _=>rfl) fun x r w J h=>by
 obtain⟨s,b,z⟩:=x;obtain⟨hc,h⟩:=zm h;obtain⟨hc,j⟩:=KX hc;obtain⟨H,I⟩:=KX j;obtain rfl:b=10:=Zr H;obtain rfl:z=64:=Zr I;have hv:Lib.parseIntB 64 s=.ok r:=by revert h;cases Lib.parseIntB 64 s<;>intro h<;>cases h;rfl
 refine(Tryz.strconv_ParseInt_10_at64_ok (bs s) (by rw[jt];exact Zr hc) r hv w).mono fun e w' ⟨B,j⟩=>⟨B,?_⟩
 rcases j with rfl|⟨t,rfl⟩
 ·exact .of_eq rfl
 ·exact .of_below (Lib.bytesWorld_below _ _ _)
def zDW(fs:List FuncId):Glob:=gl3++[(1,.fns 0 fs)]
theorem zEX(fs:List FuncId):Bas Tryz.prog GP3 (zDW fs):=⟨mixed,fun _ h g=>by rw[show zDW fs=gl3++[(1,.fns 0 fs)]from rfl,zbt g gl3 dE];exact h.2 g,fun R R' j h=>zpS.hst R R' j h⟩
theorem zCJ(fs:List FuncId):Bas Tryz.prog GP4 (zDW fs):=⟨mixed,fun R h=>(zEX fs).hgl R h.1,zso.hst⟩
def zc5(l:uAU):Option uAU:=chk (Nat.ble l.length 1000000000000) (some l)
def zpX(_:Nat):Con:=Con6.c ⟨38,Heap×uAU,uAU,zbL.dec,fun x=>zc5 x.2,fun x l=>⟨.rw x.1.length,x.1++[some (.bytes 5 l)]⟩⟩
theorem zjB(N:Nat):SoundC Tryz.prog GP4 (zpX N):=fun j hh x r I B=>by have B:zc5 x.2=some r:=B;unfold zc5 at B;obtain⟨hc,H⟩:=zm B;cases H;exact zdb j hh x (.bytes 5 x.2) I (by show chk (Nat.ble x.2.length 1000000000000) (some (AO.bytes 5 x.2))=_;rw[hc];rfl)
theorem zEm{C:Con}(h:SoundC Tryz.prog GP2 C):SoundC Tryz.prog GP4 C:=qV (zum h)
theorem up4{C:Con}(h:SoundC Tryz.prog GP C):SoundC Tryz.prog GP4 C:=qV (up3 h)
def Xv(_:Nat)(s:uAU):Option (Int×Int):=bnd (WY s 10 64) fun j=>some (j,0)
def zd7(N:Nat)(d:Decimal):Option (Int×Int):=bnd (QC N d) fun j=>cond (!decide (j=0)) (some (0,1)) (cond (decide (0<d.uB)) (some (0,12)) (cond d.uI (chk (zY ([45]:uAU) d.uA)<|Xv N (([45]:uAU)++d.uA)) (Xv N d.uA)))
def zr5(N:Nat):Con:=mkC 13 (cv (la (va zg) []) []) (ov_ (vt (lc (vI .i64) (la (vI .i64) []))) []:Od (Int×Int)) fun x=>zd7 N x
theorem zcY(N:Nat):SoundC Tryz.prog GP (zr5 N):=
 fnS bas [kn (qg N),kn (zfn N)] N 29 [kC (cv (la vS []) []) fun x=>Xv N x] (.seq .nil (.seq .nil (.seq .nil (.cut 0 [4] .nil .nil)))) Tryz.func13 rfl rfl kR (fun _=>kR) (ok0 kR (fun _ _=>kR) okN)
def lkS:List AV:=[.agg [.int .u8 (3),.str [65],.int .i64 (1),.int .i64 (8),.bool true],.agg [.int .u8 (1),.str [68,69,76,73,77,73,84,69,68],.int .i64 (1),.int .i64 (12),.bool false],.agg [.int .u8 (1),.str [83,73,90,69],.int .i64 (1),.int .i64 (22),.bool false],.agg [.int .u8 (1),.str [73,78,84,79],.int .i64 (1),.int .i64 (27),.bool false],.agg [.int .u8 (1),.str [84],.int .i64 (1),.int .i64 (32),.bool false],.agg [.int .u8 (1),.str [80,79,73,78,84,69,82],.int .i64 (1),.int .i64 (34),.bool false],.agg [.int .u8 (1),.str [80],.int .i64 (1),.int .i64 (42),.bool false]]
def kS0:List AV:=[.agg [.int .i64 (0),.int .i64 (-1)]]
def kS1:List AV:=[.rov true 5 [.agg [.int .u8 (3),.str [65],.int .i64 (1),.int .i64 (8),.bool true]],.rov true 5 [.agg [.int .u8 (1),.str [84],.int .i64 (1),.int .i64 (32),.bool false]],.rov true 5 [.agg [.int .u8 (1),.str [80],.int .i64 (1),.int .i64 (42),.bool false]]]
def cS:AV:=.agg [.rov true 2 kS0,.int .i64 1,.int .i64 2,.rov true 1 kS1]
def lkU:List AV:=[.agg [.int .u8 (1),.str [65],.int .i64 (1),.int .i64 (8),.bool true],.agg [.int .u8 (1),.str [73,78,84,79],.int .i64 (1),.int .i64 (10),.bool true],.agg [.int .u8 (1),.str [66],.int .i64 (1),.int .i64 (15),.bool false],.agg [.int .u8 (1),.str [68,69,76,73,77,73,84,69,82],.int .i64 (1),.int .i64 (17),.bool false],.agg [.int .u8 (1),.str [84],.int .i64 (1),.int .i64 (27),.bool false],.agg [.int .u8 (1),.str [67,79,85,78,84],.int .i64 (1),.int .i64 (29),.bool false],.agg [.int .u8 (1),.str [80],.int .i64 (1),.int .i64 (35),.bool false]]
def kU0:List AV:=[.agg [.int .i64 (1),.int .i64 (2),.int .i64 (3)]]
def kU1:List AV:=[.rov true 5 [.agg [.int .u8 (1),.str [65],.int .i64 (1),.int .i64 (8),.bool true]],.rov true 5 [.agg [.int .u8 (1),.str [66],.int .i64 (1),.int .i64 (15),.bool false]],.rov true 5 [.agg [.int .u8 (1),.str [84],.int .i64 (1),.int .i64 (27),.bool false]],.rov true 5 [.agg [.int .u8 (1),.str [80],.int .i64 (1),.int .i64 (35),.bool false]]]
def cU:AV:=.agg [.int .i64 0,.nils,.rov true 3 kU0,.int .i64 (-1),.int .i64 (-1),.rov true 1 kU1]
def zy6(c:UInt8):AV:=.agg [.int .u8 2,.int .u8 0,.str [88],.int .i64 0,.int .i64 0,.bool false,.bool false,.bool false,.bool false,.bool false,.int .i64 1,.rob false [c]]
def zxX:Mm:=⟨6,[.str [34,65,34,32,68,69,76,73,77,73,84,69,68,32,83,73,90,69,32,73,78,84,79,32,84,32,80,79,73,78,84,69,82,32,80]],[],⟨.rov true 5 lkS,[]⟩⟩
def ztJ:Mm:=⟨5,[.rov true 5 lkS],[],⟨.tup [cS,.int .i64 0],[]⟩⟩
def zxW:Mm:=⟨6,[.str [65,32,73,78,84,79,32,66,32,68,69,76,73,77,73,84,69,82,32,84,32,67,79,85,78,84,32,80]],[],⟨.rov true 5 lkU,[]⟩⟩
def ztI:Mm:=⟨7,[.rov true 5 lkU],[],⟨.tup [cU,.int .i64 0],[]⟩⟩
def zuE(_:Nat):Con:=zxX.con
def zq9(_:Nat):Con:=ztJ.con
def zuD(_:Nat):Con:=zxW.con
def zq8(_:Nat):Con:=ztI.con
def ztM:Mm:=⟨9,[.str [65]],[],⟨zy6 65,[]⟩⟩
def ztL:Mm:=⟨9,[.str [46]],[],⟨zy6 46,[]⟩⟩
def zrK(_:Nat):Con:=ztM.con
def zrJ(_:Nat):Con:=ztL.con
def ztK:Mm:=⟨46,[.rob false [65],.agg [.int .u8 2,.int .u8 0,.str [88],.int .i64 0,.int .i64 0,.bool false,.bool false,.bool false,.bool false,.bool false,.int .i64 1]],[],⟨.tup [.rob true [65],.int .i64 0],[]⟩⟩
def zrj(_:Nat):Con:=ztK.con
theorem zn7(N:Nat):SoundC Tryz.prog GP4 (zuE N):=by
 have e:zfW=zxX:=kR
 have h:=zzB;rw[e]at h;exact h
theorem zlR(N:Nat):SoundC Tryz.prog GP4 (zq9 N):=by
 have e:zfV=ztJ:=kR
 have h:=zzA;rw[e]at h;exact h
theorem zn6(N:Nat):SoundC Tryz.prog GP4 (zuD N):=by
 have e:zfQ=zxW:=kR
 have h:=zzv;rw[e]at h;exact h
theorem zlQ(N:Nat):SoundC Tryz.prog GP4 (zq8 N):=by
 have e:zfP=ztI:=kR
 have h:=zzu;rw[e]at h;exact h
theorem zmH(N:Nat):SoundC Tryz.prog GP4 (zrK N):=by
 have e:zfO=ztM:=kR
 have h:=zzt;rw[e]at h;exact h
theorem zmG(N:Nat):SoundC Tryz.prog GP4 (zrJ N):=by
 have e:zfN=ztL:=kR
 have h:=zzs;rw[e]at h;exact h
theorem zl2(N:Nat):SoundC Tryz.prog GP4 (zrj N):=by
 have e:zfM=ztK:=kR
 have h:=zzr;rw[e]at h;exact h
section
section
variable {ρ : Rl} {X Y : Type}
def ldS(c:AV)(b:LC ρ X):LC ρ X:=⟨fun v=>match v with
 |u::r=>ZA (zev u c) (b.d r)
 |[]=>none,fun x=>c::b.e x,b.n+1,fun x=>by rw[mM,b.hn],fun v x h=>by
  split at h
  ·obtain⟨j,B⟩:=jc h;rw[QK _ _ j];exact ρ.cons (ρ.rv _) (b.ok _ _ B)
  ·cases h⟩
def vU:VC rW Unit:=⟨fun _=>some (),fun _=>.undef,fun v x _=>fun L R V _=>by unfold Rel;trivial⟩
def voA(f:Bool)(z:Nat)(c:List AV)(l:LC rE X)(m:LC rE Y):VC ρ (X×Y):=⟨fun v=>match v with
 |.rov g y [u,.agg cs,.agg H]=>ZA (decide (f=g)&&(Nat.beq z y&&qK [u] c)) (two (l.d cs) (m.d H))
 |.rov g y [u,v,.agg cs,.agg H]=>ZA (decide (f=g)&&(Nat.beq z y&&qK [u,v] c)) (two (l.d cs) (m.d H))
 |_=>none,fun x=>.rov f z (c++[.agg (l.e x.1),.agg (m.e x.2)]),fun v x h=>by
  split at h
  ·obtain⟨j,J⟩:=jc h;obtain⟨j,B⟩:=yg j;obtain⟨B,I⟩:=yg B;rw[of_decide_eq_true j,mE B];obtain⟨S,O⟩:=zdr J;rw[l.ok _ _ S,m.ok _ _ O,<-yb _ _ I];exact ρ.rv _
  ·obtain⟨j,J⟩:=jc h;obtain⟨j,B⟩:=yg j;obtain⟨B,I⟩:=yg B;rw[of_decide_eq_true j,mE B];obtain⟨S,O⟩:=zdr J;rw[l.ok _ _ S,m.ok _ _ O,<-yb _ _ I];exact ρ.rv _
  ·cases h⟩
end
def shA:Shape:=Shape.mk 2 0 [88] 0 0 false false false false false 1
def zuz(f:Field):Shape:=Shape.mk f.vD f.vP f.vQ f.vR f.vK f.vT f.vV f.vW f.vX f.vY f.vL
def zzm(N:Nat)(f g:Field)(k:Option (Bool×Int)):Option (Bool×Int):=bnd (JG N (zuz f)) fun r=>cond (!decide (r=0)) (some (false,1)) (bnd (JG N (zuz g)) fun r=>cond (!decide (r=0)) (some (false,1)) (cond (!decide (((f.vM).length:Int)=f.vL)) (some (false,5)) (cond (!decide (((g.vM).length:Int)=g.vL)) (some (false,5)) k)))
def za5(N:Nat)(g:Field)(n:Int)(k:Option (Bool×Int)):Option (Bool×Int):=bnd (zr9 N n) fun d=>bnd (zhg N d (zuz g) 0) fun _=>k
def zwr(N:Nat)(f g:Field)(k:Int):Option (Bool×Int):=bnd (zc5 f.vM) fun l=>chk (zk 0 (l.length:Int) l.length&&decide ((l.length:Int)=(l.length:Int))) (chk (decide (0<=k-1)&&decide (k-1<=(l.length:Int)-0)&&decide ((l.length:Int)-0<=(l.length:Int)-0)) (chk (inKb .i64 (k-1+((min 1 ((l.length:Int)-0-(k-1)).toNat:Nat):Int))) (cond (decide (((min 1 ((l.length:Int)-0-(k-1)).toNat:Nat):Int)<1)) (chk (inKb .i64 (k-1+((min 1 ((l.length:Int)-0-(k-1)).toNat:Nat):Int)+1)) (za5 N g (k-1+((min 1 ((l.length:Int)-0-(k-1)).toNat:Nat):Int)+1) (some (true,0)))) (chk (inKb .i64 (k-1+((min 1 ((l.length:Int)-0-(k-1)).toNat:Nat):Int)+1)) (za5 N g (k-1+((min 1 ((l.length:Int)-0-(k-1)).toNat:Nat):Int)+1) (some (false,0)))))))
def zjQ(N:Nat)(f g:Field):Option (Bool×Int):=bnd (znP N g) fun r=>cond (!decide (r.2=0)) (cond (!decide (r.2=0)) (some (decide (r.2=0),r.2)) (some (decide (r.2=0),r.2))) (bnd (zd7 N r.1) fun t=>cond (!decide (t.2=0)) (cond (!decide (t.2=0)) (some (decide (t.2=0),t.2)) (some (decide (t.2=0),t.2))) (chk (inKb .i64 (t.1-1)) (cond (decide (1<=t.1)) (cond (!decide (t.1<=((f.vM).length:Int))) (some (true,0)) (zwr N f g t.1)) (some (true,0)))))
def znW(N:Nat)(f g:Field):Option (Bool×Int):=cond (decide (g.vD=4)) (cond (!decide (g.vK=0)) (some (false,12)) (zjQ N f g)) (some (false,12))
def zuu(N:Nat)(f g:Field):Option (Bool×Int):=bnd (JG N shA) fun r=>cond (!decide (r=0)) (some (false,1)) (zzm N f g (cond (!decide (f.vD=0)) (cond (!decide (f.vD=1)) (cond (!decide (f.vD=2)) (some (false,12)) (znW N f g)) (znW N f g)) (znW N f g)))
def zCu(N:Nat)(f g:Field):Option (Bool×Int):=cond (decide (f.vD=4)) (bnd (Y0 N 48 (zuz f)) fun r=>cond (!decide (r.2=0)) (some (false,r.2)) (za5 N g 1 (some (false,0)))) (cond (decide (f.vD=5)) (bnd (Y0 N 48 (zuz f)) fun r=>cond (!decide (r.2=0)) (some (false,r.2)) (za5 N g 1 (some (false,0)))) (bnd (Y0 N 32 (zuz f)) fun r=>cond (!decide (r.2=0)) (some (false,r.2)) (za5 N g 1 (some (false,0)))))
def zwp(N:Nat)(f g:Field):Option (Bool×Int):=bnd (JG N shA) fun r=>cond (!decide (r=0)) (some (false,1)) (bnd (JG N shA) fun r=>cond (!decide (r=0)) (some (false,1)) (zzm N f g (cond (decide (f.vD=4)) (some (false,12)) (cond (decide (f.vD=5)) (some (false,12)) (cond (decide (g.vD=4)) (cond (!decide (g.vK=0)) (some (false,12)) (zCu N f g)) (some (false,12)))))))
def znV(N:Nat):Con:=mkC 8 (cv (ldS cS (la (voA false 12 [zy6 65] (zam (vb false)) (zam (vb false))) [])) []) (om (ov_ (vt (lc vU (lc vB (la (vI .i64) [])))) []:Od (Unit×Bool×Int)) (fun x=>x.2) (fun r=>((),r)) (fun _=>rfl):Od (Bool×Int)) fun x=>zuu N x.1 x.2
noncomputable def zE3(N:Nat):List (Kn Tryz.prog GP4):=zEG (zCJ []) [kn (up4 (qU N)),kn (up4 (za0 N)),kn (up4 (zcY N)),kn (up4 (zbC N)),kn (zEm (zb8 N)),kn (zjB N)] [33,71,72,128,127,200,73,129,74,130,34,75,77,35,36,37,41,40] 64 8
theorem zqq(N:Nat):SoundC Tryz.prog GP4 (znV N):=
 fnS (zCJ []) (zE3 N) N 138 [] .nil Tryz.func8 rfl rfl kR (fun _=>kR) okN
def znU(N:Nat):Con:=mkC 10 (cv (ldS cU (la (voA false 12 [zy6 65,zy6 46] (zam (vb false)) (zam (vb false))) [])) []) (om (ov_ (vt (lc vU (lc vB (la (vI .i64) [])))) []:Od (Unit×Bool×Int)) (fun x=>x.2) (fun r=>((),r)) (fun _=>rfl):Od (Bool×Int)) fun x=>zwp N x.1 x.2
noncomputable def zE2(N:Nat):List (Kn Tryz.prog GP4):=zEG zso [kn (up4 (qU N)),kn (up4 (za0 N)),kn (up4 (zbC N)),kn (zEm (zb8 N)),kn (qV (zjn N)),kn (zl2 N)] [42,79,80,72,128,127,200,81,138,82,139,74,130,34,75,77,46,43,35,36,41,40] 64 8
theorem zqp(N:Nat):SoundC Tryz.prog GP4 (znU N):=
 fnS zso (zE2 N) N 239 [] .nil Tryz.func10 rfl rfl kR (fun _=>kR) okN
theorem zov(b:Bool)(e:Int)(L:Lk)(R:Ro)(L':Lk)(R':Ro)(V:Value)(h:Rel L R (.tup [.undef,.bool b,.int .i64 e]) V):Rel L' R' (.tup [.undef,.bool b,.int .i64 e]) V:=h
def zjh(N:Nat):Con:=zrp (znV N)
theorem zfe(N:Nat):SoundC Tryz.prog GP4 (zjh N):=zeE zso.hst (zqq N) (fun _ r=>⟨rfl,zov r.1 r.2⟩)
def zjg(N:Nat):Con:=zrp (znU N)
theorem zfd(N:Nat):SoundC Tryz.prog GP4 (zjg N):=zeE zso.hst (zqp N) (fun _ r=>⟨rfl,zov r.1 r.2⟩)
end
def jz(N:Nat)(B:Bool)(g2:Int)(_b0_0_3:Int)(_b0_1_3:Int)(_b0_2_3:uAU)(_b0_3_3:Int)(_b0_4_3:Int)(_b0_5_3:Bool)(_b0_6_3:Bool)(_b0_7_3:Bool)(_b0_8_3:Bool)(_b0_9_3:Bool)(H:Int)(U:Int)(S:Int)(J:uAU)(b1_3_3:Int)(I:Int)(b1_5_3:Bool)(O:Bool)(b1_7_3:Bool)(b1_8_3:Bool)(Z:Bool)(j:Int)(_b2_3:uAU)(b3_3:uAU):Option (Bool):=cond (decide (g2=12)) (some true) (bnd (znP N (Field.mk U S J b1_3_3 I b1_5_3 O b1_7_3 b1_8_3 Z j b3_3)) fun rr4=>cond (!decide (rr4.2=0)) (cond (decide (g2=15)) (some true) (some false)) (bnd (zd7 N rr4.1) fun rr5=>cond (decide (g2=0)) (cond (decide (1<=rr5.1)) (cond (decide ((!B)=decide (rr5.1<=H))) (some true) (some false)) (cond (decide ((!B)=false)) (some true) (some false))) (some false)))
def qN(N:Nat)(over1:Bool)(g1:Int)(hh1:Int)(integer1:Bool)(letters:Bool)(j:Int)(U:Int)(b0_2_2:uAU)(b0_3_2:Int)(S:Int)(b0_5_2:Bool)(I:Bool)(b0_7_2:Bool)(b0_8_2:Bool)(O:Bool)(H:Int)(b1_0_2:Int)(b1_1_2:Int)(b1_2_2:uAU)(b1_3_2:Int)(Z:Int)(b1_5_2:Bool)(b1_6_2:Bool)(b1_7_2:Bool)(J:Bool)(b1_9_2:Bool)(B:Int)(b2_2:uAU)(b3_2:uAU):Option (Bool):=cond (!letters) (cond (!decide (decide (g1=12)=true)) (some false) (cond (decide (j=4)) (cond (!decide (decide (hh1=12)=true)) (some false) (jz N over1 g1 j U b0_2_2 b0_3_2 S b0_5_2 I b0_7_2 b0_8_2 O H b1_0_2 b1_1_2 b1_2_2 b1_3_2 Z b1_5_2 b1_6_2 b1_7_2 J b1_9_2 B b2_2 b3_2)) (cond (decide (j=5)) (cond (!decide (decide (hh1=12)=true)) (some false) (jz N over1 g1 j U b0_2_2 b0_3_2 S b0_5_2 I b0_7_2 b0_8_2 O H b1_0_2 b1_1_2 b1_2_2 b1_3_2 Z b1_5_2 b1_6_2 b1_7_2 J b1_9_2 B b2_2 b3_2)) (cond (!decide (decide (hh1=12)=!integer1)) (some false) (jz N over1 g1 j U b0_2_2 b0_3_2 S b0_5_2 I b0_7_2 b0_8_2 O H b1_0_2 b1_1_2 b1_2_2 b1_3_2 Z b1_5_2 b1_6_2 b1_7_2 J b1_9_2 B b2_2 b3_2))))) (cond (!decide (decide (g1=12)=!integer1)) (some false) (cond (decide (j=4)) (cond (!decide (decide (hh1=12)=true)) (some false) (jz N over1 g1 j U b0_2_2 b0_3_2 S b0_5_2 I b0_7_2 b0_8_2 O H b1_0_2 b1_1_2 b1_2_2 b1_3_2 Z b1_5_2 b1_6_2 b1_7_2 J b1_9_2 B b2_2 b3_2)) (cond (decide (j=5)) (cond (!decide (decide (hh1=12)=true)) (some false) (jz N over1 g1 j U b0_2_2 b0_3_2 S b0_5_2 I b0_7_2 b0_8_2 O H b1_0_2 b1_1_2 b1_2_2 b1_3_2 Z b1_5_2 b1_6_2 b1_7_2 J b1_9_2 B b2_2 b3_2)) (cond (!decide (decide (hh1=12)=!integer1)) (some false) (jz N over1 g1 j U b0_2_2 b0_3_2 S b0_5_2 I b0_7_2 b0_8_2 O H b1_0_2 b1_1_2 b1_2_2 b1_3_2 Z b1_5_2 b1_6_2 b1_7_2 J b1_9_2 B b2_2 b3_2)))))
def Jf(N:Nat)(over:Bool)(g:Int)(hh:Int)(H:Bool)(j:Int)(b0_1_1:Int)(b0_2_1:uAU)(O:Int)(b0_4_1:Int)(J:Bool)(b0_6_1:Bool)(b0_7_1:Bool)(b0_8_1:Bool)(U:Bool)(I:Int)(b1_0_1:Int)(S:Int)(b1_2_1:uAU)(b1_3_1:Int)(b1_4_1:Int)(Z:Bool)(b1_6_1:Bool)(b1_7_1:Bool)(b1_8_1:Bool)(b1_9_1:Bool)(B:Int)(b2_1:uAU)(b3_1:uAU):Option (Bool):=cond (decide (j=0)) (qN N over g hh H true j b0_1_1 b0_2_1 O b0_4_1 J b0_6_1 b0_7_1 b0_8_1 U I b1_0_1 S b1_2_1 b1_3_1 b1_4_1 Z b1_6_1 b1_7_1 b1_8_1 b1_9_1 B b2_1 b3_1) (cond (decide (j=1)) (qN N over g hh H true j b0_1_1 b0_2_1 O b0_4_1 J b0_6_1 b0_7_1 b0_8_1 U I b1_0_1 S b1_2_1 b1_3_1 b1_4_1 Z b1_6_1 b1_7_1 b1_8_1 b1_9_1 B b2_1 b3_1) (qN N over g hh H (decide (j=2)) j b0_1_1 b0_2_1 O b0_4_1 J b0_6_1 b0_7_1 b0_8_1 U I b1_0_1 S b1_2_1 b1_3_1 b1_4_1 Z b1_6_1 b1_7_1 b1_8_1 b1_9_1 B b2_1 b3_1))
def Jg(N:Nat)(b0_0:Int)(b0_1:Int)(J:uAU)(U:Int)(b0_4:Int)(b0_5:Bool)(S:Bool)(b0_7:Bool)(O:Bool)(b0_9:Bool)(B:Int)(I:Int)(b1_1:Int)(b1_2:uAU)(b1_3:Int)(H:Int)(b1_5:Bool)(b1_6:Bool)(Z:Bool)(b1_8:Bool)(b1_9:Bool)(j:Int)(b2:uAU)(b3:uAU):Option (Bool):=bnd (zuu N (Field.mk b0_0 b0_1 J U b0_4 b0_5 S b0_7 O b0_9 B b2) (Field.mk I b1_1 b1_2 b1_3 H b1_5 b1_6 Z b1_8 b1_9 j b3)) fun rr2=>bnd (zwp N (Field.mk b0_0 b0_1 J U b0_4 b0_5 S b0_7 O b0_9 B b2) (Field.mk I b1_1 b1_2 b1_3 H b1_5 b1_6 Z b1_8 b1_9 j b3)) fun rr3=>cond (decide (I=4)) (Jf N rr2.1 rr2.2 rr3.2 (decide (H=0)) b0_0 b0_1 J U b0_4 b0_5 S b0_7 O b0_9 B I b1_1 b1_2 b1_3 H b1_5 b1_6 Z b1_8 b1_9 j b2 b3) (Jf N rr2.1 rr2.2 rr3.2 false b0_0 b0_1 J U b0_4 b0_5 S b0_7 O b0_9 B I b1_1 b1_2 b1_3 H b1_5 b1_6 Z b1_8 b1_9 j b2 b3)
def Je(N:Nat)(B:Int)(t36:Bool)(b0_0_4:Int)(b0_1_4:Int)(b0_2_4:uAU)(U:Int)(O:Int)(b0_5_4:Bool)(b0_6_4:Bool)(b0_7_4:Bool)(b0_8_4:Bool)(b0_9_4:Bool)(H:Int)(b1_0_4:Int)(b1_1_4:Int)(b1_2_4:uAU)(Z:Int)(b1_4_4:Int)(J:Bool)(b1_6_4:Bool)(b1_7_4:Bool)(b1_8_4:Bool)(S:Bool)(I:Int)(b2_4:uAU)(j:uAU):Option (Bool):=cond t36 (chk (inKb .i64 B)<|chk (zf B&&decide (0<((j).length:Int)))<|chk (inIx (B% ((j).length:Int)) (j).length)<|chk (inIx (B% ((j).length:Int)) (j).length&&inKb .u8 B)<|Jg N b0_0_4 b0_1_4 b0_2_4 U O b0_5_4 b0_6_4 b0_7_4 b0_8_4 b0_9_4 H b1_0_4 b1_1_4 b1_2_4 Z b1_4_4 J b1_6_4 b1_7_4 b1_8_4 S I b2_4 (j.set ((B% ((j).length:Int))).toNat (toByte B))) (Jg N b0_0_4 b0_1_4 b0_2_4 U O b0_5_4 b0_6_4 b0_7_4 b0_8_4 b0_9_4 H b1_0_4 b1_1_4 b1_2_4 Z b1_4_4 J b1_6_4 b1_7_4 b1_8_4 S I b2_4 j)
def Zj(N:Nat)(x:F_64)(y:F_64)(at_:Int):Option (Bool):=bnd (FOf N x) fun B=>bnd (FOf N y) fun j=>cond (decide (128<=at_)) (Je N at_ (decide (0<((j.vM).length:Int))) B.vD B.vP B.vQ B.vR B.vK B.vT B.vV B.vW B.vX B.vY B.vL j.vD j.vP j.vQ j.vR j.vK j.vT j.vV j.vW j.vX j.vY j.vL B.vM j.vM) (Je N at_ false B.vD B.vP B.vQ B.vR B.vK B.vT B.vV B.vW B.vX B.vY B.vL j.vD j.vP j.vQ j.vR j.vK j.vT j.vV j.vW j.vX j.vY j.vL B.vM j.vM)
def zQci0:=hc (oc 35 (lc (vI .u8) (lc (vI .u8) (lc vS (lc (vI .i64) (lc (vI .i64) (lc vB (lc vB (lc vB (lc vB (lc vB (la (vI .i64) [.rw 2])))))))))))) (hc (oc 35 (lc (vI .u8) (lc (vI .u8) (lc vS (lc (vI .i64) (lc (vI .i64) (lc vB (lc vB (lc vB (lc vB (lc vB (la (vI .i64) [.rw 3])))))))))))) (hc (ob 5) (ha (ob 5) [])))
def zmm(N:Nat):Con:=mkC 3 (cv (lc (va (KD (vb false))) (lc (va (KD (vb false))) (la (vI .u8) []))) []) (ov_ vB []:Od (Bool)) fun x=>Zj N x.1 x.2.1 x.2.2
theorem zhR(N:Nat):SoundC Tryz.prog GP4 (zmm N):=
 fnS zso [kn (qV (zsz N)),kn (zn7 N),kn (zlR N),kn (zn6 N),kn (zlQ N),kn (zmH N),kn (zfe N),kn (zmG N),kn (zfd N),kn (zjo N),kn (up4 (zfc N)),kn (up4 (zcY N))] N 177 [kC (ch [.ptr 0 0,.ptr 1 0] zQci0) fun x=>Jg N x.1.1 x.1.2.1 x.1.2.2.1 x.1.2.2.2.1 x.1.2.2.2.2.1 x.1.2.2.2.2.2.1 x.1.2.2.2.2.2.2.1 x.1.2.2.2.2.2.2.2.1 x.1.2.2.2.2.2.2.2.2.1 x.1.2.2.2.2.2.2.2.2.2.1 x.1.2.2.2.2.2.2.2.2.2.2 x.2.1.1 x.2.1.2.1 x.2.1.2.2.1 x.2.1.2.2.2.1 x.2.1.2.2.2.2.1 x.2.1.2.2.2.2.2.1 x.2.1.2.2.2.2.2.2.1 x.2.1.2.2.2.2.2.2.2.1 x.2.1.2.2.2.2.2.2.2.2.1 x.2.1.2.2.2.2.2.2.2.2.2.1 x.2.1.2.2.2.2.2.2.2.2.2.2 x.2.2.1 x.2.2.2,kC (cb (ld (.ptr 0 0) (ld (.ptr 1 0) (lc vB (lc (vI .i64) (lc (vI .i64) (la vB [])))))) zQci0) fun x=>Jf N x.1.1 x.1.2.1 x.1.2.2.1 x.1.2.2.2 x.2.1.1 x.2.1.2.1 x.2.1.2.2.1 x.2.1.2.2.2.1 x.2.1.2.2.2.2.1 x.2.1.2.2.2.2.2.1 x.2.1.2.2.2.2.2.2.1 x.2.1.2.2.2.2.2.2.2.1 x.2.1.2.2.2.2.2.2.2.2.1 x.2.1.2.2.2.2.2.2.2.2.2.1 x.2.1.2.2.2.2.2.2.2.2.2.2 x.2.2.1.1 x.2.2.1.2.1 x.2.2.1.2.2.1 x.2.2.1.2.2.2.1 x.2.2.1.2.2.2.2.1 x.2.2.1.2.2.2.2.2.1 x.2.2.1.2.2.2.2.2.2.1 x.2.2.1.2.2.2.2.2.2.2.1 x.2.2.1.2.2.2.2.2.2.2.2.1 x.2.2.1.2.2.2.2.2.2.2.2.2.1 x.2.2.1.2.2.2.2.2.2.2.2.2.2 x.2.2.2.1 x.2.2.2.2,kC (cb (ld (.ptr 0 0) (ld (.ptr 1 0) (lc vB (lc (vI .i64) (lc (vI .i64) (lc vB (la vB []))))))) zQci0) fun x=>qN N x.1.1 x.1.2.1 x.1.2.2.1 x.1.2.2.2.1 x.1.2.2.2.2 x.2.1.1 x.2.1.2.1 x.2.1.2.2.1 x.2.1.2.2.2.1 x.2.1.2.2.2.2.1 x.2.1.2.2.2.2.2.1 x.2.1.2.2.2.2.2.2.1 x.2.1.2.2.2.2.2.2.2.1 x.2.1.2.2.2.2.2.2.2.2.1 x.2.1.2.2.2.2.2.2.2.2.2.1 x.2.1.2.2.2.2.2.2.2.2.2.2 x.2.2.1.1 x.2.2.1.2.1 x.2.2.1.2.2.1 x.2.2.1.2.2.2.1 x.2.2.1.2.2.2.2.1 x.2.2.1.2.2.2.2.2.1 x.2.2.1.2.2.2.2.2.2.1 x.2.2.1.2.2.2.2.2.2.2.1 x.2.2.1.2.2.2.2.2.2.2.2.1 x.2.2.1.2.2.2.2.2.2.2.2.2.1 x.2.2.1.2.2.2.2.2.2.2.2.2.2 x.2.2.2.1 x.2.2.2.2,kC (cb (ld (.ptr 0 0) (ld (.ptr 1 0) (lc vB (la (vI .i64) [])))) zQci0) fun x=>jz N x.1.1 x.1.2 x.2.1.1 x.2.1.2.1 x.2.1.2.2.1 x.2.1.2.2.2.1 x.2.1.2.2.2.2.1 x.2.1.2.2.2.2.2.1 x.2.1.2.2.2.2.2.2.1 x.2.1.2.2.2.2.2.2.2.1 x.2.1.2.2.2.2.2.2.2.2.1 x.2.1.2.2.2.2.2.2.2.2.2.1 x.2.1.2.2.2.2.2.2.2.2.2.2 x.2.2.1.1 x.2.2.1.2.1 x.2.2.1.2.2.1 x.2.2.1.2.2.2.1 x.2.2.1.2.2.2.2.1 x.2.2.1.2.2.2.2.2.1 x.2.2.1.2.2.2.2.2.2.1 x.2.2.1.2.2.2.2.2.2.2.1 x.2.2.1.2.2.2.2.2.2.2.2.1 x.2.2.1.2.2.2.2.2.2.2.2.2.1 x.2.2.1.2.2.2.2.2.2.2.2.2.2 x.2.2.2.1 x.2.2.2.2,kC (cb (lc (vI .u8) (ld (.ptr 0 0) (ld (.ptr 1 0) (la vB [])))) zQci0) fun x=>Je N x.1.1 x.1.2 x.2.1.1 x.2.1.2.1 x.2.1.2.2.1 x.2.1.2.2.2.1 x.2.1.2.2.2.2.1 x.2.1.2.2.2.2.2.1 x.2.1.2.2.2.2.2.2.1 x.2.1.2.2.2.2.2.2.2.1 x.2.1.2.2.2.2.2.2.2.2.1 x.2.1.2.2.2.2.2.2.2.2.2.1 x.2.1.2.2.2.2.2.2.2.2.2.2 x.2.2.1.1 x.2.2.1.2.1 x.2.2.1.2.2.1 x.2.2.1.2.2.2.1 x.2.2.1.2.2.2.2.1 x.2.2.1.2.2.2.2.2.1 x.2.2.1.2.2.2.2.2.2.1 x.2.2.1.2.2.2.2.2.2.2.1 x.2.2.1.2.2.2.2.2.2.2.2.1 x.2.2.1.2.2.2.2.2.2.2.2.2.1 x.2.2.1.2.2.2.2.2.2.2.2.2.2 x.2.2.2.1 x.2.2.2.2] (.seq .nil (.seq .nil (.seq .nil (.cut 0 [7,8] (.cut 4 [2,7,8,36] .nil .nil) (.seq .nil (.seq .nil (.seq .nil (.seq .nil (.seq .nil (.cut 1 [7,8,14,15,18,19] .nil (.cut 2 [7,8,14,15,18,19,20] .nil (.cut 3 [7,8,14,15] .nil .nil)))))))))))) Tryz.func3 rfl rfl kR (fun _=>kR) (ok0 kR (fun _ _=>kR)
  (ok0 kR (fun _ _=>kR)
  (ok0 kR (fun _ _=>kR)
  (ok0 kR (fun _ _=>kR)
  (ok0 kR (fun _ _=>kR) okN)))))
end Go.Proofs.C06
