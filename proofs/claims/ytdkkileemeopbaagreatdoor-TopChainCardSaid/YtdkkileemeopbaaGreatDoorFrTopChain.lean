/-
  For every number and at most 6 receivers of any usages and edited pictures, a number that is moved through them and has a place in each of them arrives unchanged, or as its absolute value if one of them has no sign; the examples of the layers hold. No conditions: every number, all lists of receivers.
-/
import Derived.Test.YtdkkileemeopbaaGreatDoorFf
import Derived.Test.YtdkkileemeopbaaGreatDoorCi
import Derived.Test.YtdkkileemeopbaaGreatDoorMa
section
set_option maxHeartbeats 4000000
set_option maxRecDepth 100000
namespace Go.Proofs.C06
open Go Go.ChangeShapes Go.WideShapes Go.ChangeAt Go.RowKit Go.Vc Go.Am
open Go.Proofs.YtdkkileemeopbaaGreatDoor
def InF(x:F):Prop:=(0<=x.uA/\x.uA<=255)/\(0<=x.uM/\x.uM<=255)/\(0<=x.uO/\x.uO<=255)/\True
theorem zpP{H:Type}{enc:TypeId×Value->H}{W:World}{sp:Nat->Bool}{held:Bool}{L:Lk}{n:Nat}{cs:List Value}{x:DataW H×List MemPlace}(h:DataW.trod enc Tryz.prog W 0 sp held n 24 cs=some x):
  ∃y:F,RelL L (RA W) [.int .u8 y.uA,.int .u8 y.uM,.int .u8 y.uO,.bool y.uH,.rob false y.Value] cs/\InF y:=by
 obtain⟨xs,m,_,_,hl,hlen,hfs⟩:=DataW.trod_struct Tryz.underlying24 h;have hl:cs.length=5:=hl.trans (by kernel_rfl);have hlen:xs.length=5:=hlen;have hget:∀i,i<5->∃y,xs[i]? =some y:=fun i hi=>⟨xs[i],mC (by omega)⟩
 match cs,hl with
 |[c0,c1,c2,c3,c4],_=>obtain⟨y0,e0⟩:=hget 0 (by decide);have k0:=hfs 0 ⟨"Digits",5,0,false,"","",0⟩ rfl;dsimp only at k0;rw[show Tryz.prog.cellsOf 5=1 by kernel_rfl]at k0;have f0:DataW.trod enc Tryz.prog W 0 sp held m 5 [c0]=some y0:=k0.trans e0;obtain⟨V0,z0,g0,r0,a0,b0⟩:=yY (L:=L) (by kernel_rfl) f0;cases g0;obtain⟨y1,e1⟩:=hget 1 (by decide);have k1:=hfs 1 ⟨"Point",5,1,false,"","",1⟩ rfl;dsimp only at k1;rw[show Tryz.prog.cellsOf 5=1 by kernel_rfl]at k1;have f1:DataW.trod enc Tryz.prog W 0 sp held m 5 [c1]=some y1:=k1.trans e1;obtain⟨V1,z1,g1,r1,a1,b1⟩:=yY (L:=L) (by kernel_rfl) f1;cases g1;obtain⟨y2,e2⟩:=hget 2 (by decide);have k2:=hfs 2 ⟨"Form",5,2,false,"","",2⟩ rfl;dsimp only at k2;rw[show Tryz.prog.cellsOf 5=1 by kernel_rfl]at k2;have f2:DataW.trod enc Tryz.prog W 0 sp held m 5 [c2]=some y2:=k2.trans e2;obtain⟨V2,z2,g2,r2,a2,b2⟩:=yY (L:=L) (by kernel_rfl) f2;cases g2;obtain⟨y3,e3⟩:=hget 3 (by decide);have k3:=hfs 3 ⟨"Neg",4,3,false,"","",3⟩ rfl;dsimp only at k3;rw[show Tryz.prog.cellsOf 4=1 by kernel_rfl]at k3;have f3:DataW.trod enc Tryz.prog W 0 sp held m 4 [c3]=some y3:=k3.trans e3;obtain⟨V3,z3,g3,r3⟩:=zct (L:=L) (by kernel_rfl) f3;cases g3;obtain⟨y4,e4⟩:=hget 4 (by decide);have k4:=hfs 4 ⟨"Value",22,4,false,"","",8⟩ rfl;dsimp only at k4;rw[show Tryz.prog.cellsOf 22=1 by kernel_rfl]at k4;have f4:DataW.trod enc Tryz.prog W 0 sp held m 22 [c4]=some y4:=k4.trans e4;obtain⟨V4,z4,g4,r4⟩:=znL (L:=L) (e:=5) (by kernel_rfl) (by kernel_rfl) (by kernel_rfl) f4;cases g4;exact⟨F.mk z0 z1 z2 z3 z4,⟨c0,_,rfl,r0,⟨c1,_,rfl,r1,⟨c2,_,rfl,r2,⟨c3,_,rfl,r3,⟨c4,_,rfl,r4,rfl⟩⟩⟩⟩⟩,⟨a0,b0⟩,⟨a1,b1⟩,⟨a2,b2⟩,trivial⟩
theorem zwt{H:Type}{enc:TypeId×Value->H}{W:World}{sp:Nat->Bool}{held:Bool}{L:Lk}{r:Reach}{b0:Nat}{v:Value}{d:DataW H}{ps:List MemPlace}(hval:Value.okWide Tryz.prog W r b0 24 v)(h:DataW.Trod enc Tryz.prog W 0 sp held 24 v d ps):
  ∃y:F,Rel L (RA W) (.agg [.int .u8 y.uA,.int .u8 y.uM,.int .u8 y.uO,.bool y.uH,.rob false y.Value]) v/\InF y:=by
 unfold Value.okWide at hval;rw[Tryz.underlying24]at hval;obtain⟨cs,rfl,_,_⟩:=hval;obtain⟨fuel,hf⟩:=h;obtain⟨y,hr,hi⟩:=zpP (L:=L) hf;exact⟨y,⟨_,by simp[Value.cells],hr⟩,hi⟩
def InE(x:E):Prop:=(0<=x.wG/\x.wG<=255)/\(0<=x.wH/\x.wH<=255)/\(0<=x.vF/\x.vF<=255)/\(0<=x.vN/\x.vN<=255)/\(0<=x.vW/\x.vW<=255)/\(0<=x.uM/\x.uM<=255)/\(0<=x.uZ/\x.uZ<=255)/\(∀v∈x.vA,0<=v/\v<=65535)/\True
theorem zvk{H:Type}{enc:TypeId×Value->H}{W:World}{sp:Nat->Bool}{held:Bool}{L:Lk}{n:Nat}{cs:List Value}{x:DataW H×List MemPlace}(h:DataW.trod enc Tryz.prog W 0 sp held n 39 cs=some x):
  ∃y:E,RelL L (RA W) [.int .u8 y.wG,.int .u8 y.wH,.int .u8 y.vF,.int .u8 y.vN,.int .u8 y.vW,.int .u8 y.uM,.int .u8 y.uZ,.roi false .u16 y.vA,.bool y.uJ] cs/\InE y:=by
 obtain⟨xs,m,_,_,hl,hlen,hfs⟩:=DataW.trod_struct Tryz.underlying39 h;have hl:cs.length=9:=hl.trans (by kernel_rfl);have hlen:xs.length=9:=hlen;have hget:∀i,i<9->∃y,xs[i]? =some y:=fun i hi=>⟨xs[i],mC (by omega)⟩
 match cs,hl with
 |[c0,c1,c2,c3,c4,c5,c6,c7,c8],_=>obtain⟨y0,e0⟩:=hget 0 (by decide);have k0:=hfs 0 ⟨"Sign",5,0,false,"","",0⟩ rfl;dsimp only at k0;rw[show Tryz.prog.cellsOf 5=1 by kernel_rfl]at k0;have f0:DataW.trod enc Tryz.prog W 0 sp held m 5 [c0]=some y0:=k0.trans e0;obtain⟨V0,z0,g0,r0,a0,b0⟩:=yY (L:=L) (by kernel_rfl) f0;cases g0;obtain⟨y1,e1⟩:=hget 1 (by decide);have k1:=hfs 1 ⟨"Dollar",5,1,false,"","",1⟩ rfl;dsimp only at k1;rw[show Tryz.prog.cellsOf 5=1 by kernel_rfl]at k1;have f1:DataW.trod enc Tryz.prog W 0 sp held m 5 [c1]=some y1:=k1.trans e1;obtain⟨V1,z1,g1,r1,a1,b1⟩:=yY (L:=L) (by kernel_rfl) f1;cases g1;obtain⟨y2,e2⟩:=hget 2 (by decide);have k2:=hfs 2 ⟨"Whole",5,2,false,"","",2⟩ rfl;dsimp only at k2;rw[show Tryz.prog.cellsOf 5=1 by kernel_rfl]at k2;have f2:DataW.trod enc Tryz.prog W 0 sp held m 5 [c2]=some y2:=k2.trans e2;obtain⟨V2,z2,g2,r2,a2,b2⟩:=yY (L:=L) (by kernel_rfl) f2;cases g2;obtain⟨y3,e3⟩:=hget 3 (by decide);have k3:=hfs 3 ⟨"Many",5,3,false,"","",3⟩ rfl;dsimp only at k3;rw[show Tryz.prog.cellsOf 5=1 by kernel_rfl]at k3;have f3:DataW.trod enc Tryz.prog W 0 sp held m 5 [c3]=some y3:=k3.trans e3;obtain⟨V3,z3,g3,r3,a3,b3⟩:=yY (L:=L) (by kernel_rfl) f3;cases g3;obtain⟨y4,e4⟩:=hget 4 (by decide);have k4:=hfs 4 ⟨"Nines",5,4,false,"","",4⟩ rfl;dsimp only at k4;rw[show Tryz.prog.cellsOf 5=1 by kernel_rfl]at k4;have f4:DataW.trod enc Tryz.prog W 0 sp held m 5 [c4]=some y4:=k4.trans e4;obtain⟨V4,z4,g4,r4,a4,b4⟩:=yY (L:=L) (by kernel_rfl) f4;cases g4;obtain⟨y5,e5⟩:=hget 5 (by decide);have k5:=hfs 5 ⟨"Point",5,5,false,"","",5⟩ rfl;dsimp only at k5;rw[show Tryz.prog.cellsOf 5=1 by kernel_rfl]at k5;have f5:DataW.trod enc Tryz.prog W 0 sp held m 5 [c5]=some y5:=k5.trans e5;obtain⟨V5,z5,g5,r5,a5,b5⟩:=yY (L:=L) (by kernel_rfl) f5;cases g5;obtain⟨y6,e6⟩:=hget 6 (by decide);have k6:=hfs 6 ⟨"Part",5,6,false,"","",6⟩ rfl;dsimp only at k6;rw[show Tryz.prog.cellsOf 5=1 by kernel_rfl]at k6;have f6:DataW.trod enc Tryz.prog W 0 sp held m 5 [c6]=some y6:=k6.trans e6;obtain⟨V6,z6,g6,r6,a6,b6⟩:=yY (L:=L) (by kernel_rfl) f6;cases g6;obtain⟨y7,e7⟩:=hget 7 (by decide);have k7:=hfs 7 ⟨"Insert",37,7,false,"","",8⟩ rfl;dsimp only at k7;rw[show Tryz.prog.cellsOf 37=1 by kernel_rfl]at k7;have f7:DataW.trod enc Tryz.prog W 0 sp held m 37 [c7]=some y7:=k7.trans e7;obtain⟨V7,z7,g7,r7,a7⟩:=zqL (L:=L) (e:=134) (by kernel_rfl) (by kernel_rfl) (by kernel_rfl) f7;cases g7;obtain⟨y8,e8⟩:=hget 8 (by decide);have k8:=hfs 8 ⟨"Blank",4,8,false,"","",32⟩ rfl;dsimp only at k8;rw[show Tryz.prog.cellsOf 4=1 by kernel_rfl]at k8;have f8:DataW.trod enc Tryz.prog W 0 sp held m 4 [c8]=some y8:=k8.trans e8;obtain⟨V8,z8,g8,r8⟩:=zct (L:=L) (by kernel_rfl) f8;cases g8;exact⟨E.mk z0 z1 z2 z3 z4 z5 z6 z7 z8,⟨c0,_,rfl,r0,⟨c1,_,rfl,r1,⟨c2,_,rfl,r2,⟨c3,_,rfl,r3,⟨c4,_,rfl,r4,⟨c5,_,rfl,r5,⟨c6,_,rfl,r6,⟨c7,_,rfl,r7,⟨c8,_,rfl,r8,rfl⟩⟩⟩⟩⟩⟩⟩⟩⟩,⟨a0,b0⟩,⟨a1,b1⟩,⟨a2,b2⟩,⟨a3,b3⟩,⟨a4,b4⟩,⟨a5,b5⟩,⟨a6,b6⟩,a7,trivial⟩
def XN(x:Link):Prop:=(0<=x.vK/\x.vK<=255)/\(0<=x.vL/\x.vL<=255)/\(0<=x.vM/\x.vM<=255)/\(0<=x.vX/\x.vX<=255)/\(0<=x.vY/\x.vY<=255)/\(0<=x.vZ/\x.vZ<=255)/\(0<=x.wA/\x.wA<=255)/\(0<=x.wC/\x.wC<=255)/\(0<=x.wD/\x.wD<=255)/\(0<=x.wE/\x.wE<=255)/\(∀v∈x.wF,0<=v/\v<=65535)/\True
theorem zov{H:Type}{enc:TypeId×Value->H}{W:World}{sp:Nat->Bool}{held:Bool}{L:Lk}{n:Nat}{cs:List Value}{x:DataW H×List MemPlace}(h:DataW.trod enc Tryz.prog W 0 sp held n 41 cs=some x):
  ∃y:Link,RelL L (RA W) [.bool y.wJ,.int .u8 y.vK,.int .u8 y.vL,.int .u8 y.vM,.bool y.wK,.rob false y.wL,.int .u8 y.vX,.int .u8 y.vY,.int .u8 y.vZ,.int .u8 y.wA,.int .u8 y.wC,.int .u8 y.wD,.int .u8 y.wE,.roi false .u16 y.wF,.bool y.wI] cs/\XN y:=by
 obtain⟨xs,m,_,_,hl,hlen,hfs⟩:=DataW.trod_struct Tryz.underlying41 h;have hl:cs.length=15:=hl.trans (by kernel_rfl);have hlen:xs.length=3:=hlen;have hget:∀i,i<3->∃y,xs[i]? =some y:=fun i hi=>⟨xs[i],mC (by omega)⟩
 match cs,hl with
 |[c0,c1,c2,c3,c4,c5,c6,c7,c8,c9,c10,c11,c12,c13,c14],_=>obtain⟨y0,e0⟩:=hget 0 (by decide);have k0:=hfs 0 ⟨"Edited",4,0,false,"","",0⟩ rfl;dsimp only at k0;rw[show Tryz.prog.cellsOf 4=1 by kernel_rfl]at k0;have f0:DataW.trod enc Tryz.prog W 0 sp held m 4 [c0]=some y0:=k0.trans e0;obtain⟨V0,z0,g0,r0⟩:=zct (L:=L) (by kernel_rfl) f0;cases g0;obtain⟨y1,e1⟩:=hget 1 (by decide);have k1:=hfs 1 ⟨"Number",24,1,false,"","",8⟩ rfl;dsimp only at k1;rw[show Tryz.prog.cellsOf 24=5 by kernel_rfl]at k1;have f1:DataW.trod enc Tryz.prog W 0 sp held m 24 [c1,c2,c3,c4,c5]=some y1:=k1.trans e1;obtain⟨z1,r1,i1⟩:=zpP (L:=L) f1;obtain⟨y2,e2⟩:=hget 2 (by decide);have k2:=hfs 2 ⟨"Show",39,6,false,"","",40⟩ rfl;dsimp only at k2;rw[show Tryz.prog.cellsOf 39=9 by kernel_rfl]at k2;have f2:DataW.trod enc Tryz.prog W 0 sp held m 39 [c6,c7,c8,c9,c10,c11,c12,c13,c14]=some y2:=k2.trans e2;obtain⟨z2,r2,i2⟩:=zvk (L:=L) f2;exact⟨Link.mk z0 z1.uA z1.uM z1.uO z1.uH z1.Value z2.wG z2.wH z2.vF z2.vN z2.vW z2.uM z2.uZ z2.vA z2.uJ,⟨c0,_,rfl,r0,zmI r1 (r2)⟩,i1.1,i1.2.1,i1.2.2.1,i2.1,i2.2.1,i2.2.2.1,i2.2.2.2.1,i2.2.2.2.2.1,i2.2.2.2.2.2.1,i2.2.2.2.2.2.2.1,i2.2.2.2.2.2.2.2.1,trivial⟩
def Zf(y:Link):AV:=.agg [.bool y.wJ,.int .u8 y.vK,.int .u8 y.vL,.int .u8 y.vM,.bool y.wK,.rob false y.wL,.int .u8 y.vX,.int .u8 y.vY,.int .u8 y.vZ,.int .u8 y.wA,.int .u8 y.wC,.int .u8 y.wD,.int .u8 y.wE,.roi false .u16 y.wF,.bool y.wI]
theorem znv{H:Type}{enc:TypeId×Value->H}{W:World}{sp:Nat->Bool}{held:Bool}{r:Reach}{b0:Nat}{v:Value}{d:DataW H}{ps:List MemPlace}(hval:Value.okWide Tryz.prog W r b0 24 v)(h:DataW.Trod enc Tryz.prog W 0 sp held 24 v d ps):
  ∃y:F,(∀L,Rel L (RA W) (.agg [.int .u8 y.uA,.int .u8 y.uM,.int .u8 y.uO,.bool y.uH,.rob false y.Value]) v)/\InF y:=by
 obtain⟨y,h1,h2⟩:=zwt (L:=fun _=>Option.none) hval h;exact⟨y,fun L=>zj (fun _ _ h=>h) _ _ (fun i hi=>by cases hi) h1,h2⟩
theorem zfd{H:Type}{enc:TypeId×Value->H}{W:World}{sp:Nat->Bool}{held:Bool}{r:Reach}{b0:Nat}{v:Value}{d:DataW H}{ps:List MemPlace}{t:TypeId}(ht:Tryz.prog.underlying t=some (.slice 41))(hval:Value.okWide Tryz.prog W r b0 t v)(h:DataW.Trod enc Tryz.prog W 0 sp held t v d ps):
  ∃l:List Link,(∀L,Rel L (RA W) (.rov false 15 (l.map Zf)) v)/\∀y∈l,XN y:=by
 obtain⟨fuel,hf⟩:=h;obtain⟨a,len,cap,rfl⟩:=okWide_slice ht hval;obtain⟨V,l,hV,hr,hw⟩:=zjl (L:=fun _=>Option.none) ht (z:=15) (by kernel_rfl) (by decide) (f:=fun y:Link=>[.bool y.wJ,.int .u8 y.vK,.int .u8 y.vL,.int .u8 y.vM,.bool y.wK,.rob false y.wL,.int .u8 y.vX,.int .u8 y.vY,.int .u8 y.vZ,.int .u8 y.wA,.int .u8 y.wC,.int .u8 y.wD,.int .u8 y.wE,.roi false .u16 y.wF,.bool y.wI]) (fun _=>rfl) (fun _=>rfl) (Q:=XN) (fun m cs x h=>zov h) (show DataW.trod enc Tryz.prog W 0 sp held fuel t [.slice a len cap]=some (d,ps)from hf);cases hV;exact⟨l,fun L=>zj (fun _ _ h=>h) _ _ (fun i hi=>by cases hi) hr,hw⟩
theorem zfs{W:World}{v0 v1:Value}{x0:F}{x1:List AV}(hG:GP4 (RA W))(r0:∀L,Rel L (RA W) (.agg [.int .u8 x0.uA,.int .u8 x0.uM,.int .u8 x0.uO,.bool x0.uH,.rob false x0.Value]) v0)(r1:∀L,Rel L (RA W) (.rov false 15 x1) v1)(h:∃N,qS N x0 x1=some true):
  Calls Tryz.prog 3 #[v0,v1] W fun e w'=>e=.returned (.bool true)/\Keeps [] W w':=by
 obtain⟨N,h⟩:=h;obtain⟨_,hc⟩:=zfr N [(.agg [.int .u8 x0.uA,.int .u8 x0.uM,.int .u8 x0.uO,.bool x0.uH,.rob false x0.Value]),(.rov false 15 x1)] [] (x0,x1) true rfl h;refine(hc (RA W) [] W [v0,v1] hG (zub W) ⟨v0,_,rfl,r0 _,⟨v1,_,rfl,r1 _,rfl⟩⟩).mono fun e w' ⟨V,R',G',he,_,hs,hV⟩=>?_
 have hV:V=.bool true:=hV;subst hV;exact⟨he,hs.keeps.mono fun k _ hk=>by cases hk⟩
end Go.Proofs.C06
namespace Go.Proofs.YtdkkileemeopbaaGreatDoor
open Go Go.ChangeShapes Go.WideShapes Go.ChangeAt Go.RowKit Go.Vc Go.Am
open Go.ChangeMaps (open_string shut_string)
namespace TopChain
theorem ztL(plain:∀(x0:C06.F)(x1:(List C06.Link)),C06.InF x0->(∀v∈x1,C06.XN v)->∃N,C06.qS N x0 (x1.map C06.Zf)=some true)(H:Type)(enc:TypeId×Value->H)(W:World)(base:Nat)(args:Array Value)(ds gs:List (DataW H))(before:List MemPlace)
  (hval:∀(j:Nat) t v,Tryz.f3.params[j]? =some t->args[j]? =some v->Value.okWide Tryz.prog W .any base t v)
  (hW:DataW.Whole enc Tryz.prog Tryz.f3.params.toList Rows.topChainSpec.vars false W args.toList ds gs before) (hL:laidMetH Tryz.prog Rows.topChainRow.laid W) (hsh:W.ShapedOpen Tryz.prog):
  Calls Tryz.prog 3 args W fun e W'=>∃v,e=.returned v/\Rows.topChainSpec.post enc Tryz.prog Tryz.f3 false true false false W args v W':=by
 have hW':=hW;obtain⟨p,q,hA0,hV,rfl,hfz,hnd⟩:=hW;have hA:DataW.TrodAll enc Tryz.prog W 0 (fun _=>true) true Tryz.f3.params.toList args.toList ds p:=hA0;rw[Tryz.params3]at hA hval;obtain⟨v0,vs0,d0,ds0,p0,q0,hargs,rfl,rfl,h0,t0⟩:=trodAll_cons hA;obtain⟨v1,vs1,d1,ds1,p1,q1,rfl,rfl,rfl,h1,t1⟩:=trodAll_cons t0;obtain⟨rfl,rfl,rfl⟩:=trodAll_nil t1;obtain rfl:args= #[v0,v1]:=by cases args;simp_all
 obtain⟨rfl,rfl⟩:=trodVars_none hV;have hlt:∀x∈p0++p1,x.block<W.heap.size:=fun x hx=>hW'.lt x (by simpa using hx)
 have h0k:=h0;have h1k:=h1;obtain⟨x0,r0,b0⟩:=C06.znv (hval 0 24 v0 rfl rfl) h0;obtain⟨x1,r1,b1⟩:=C06.zfd Tryz.underlying25 (hval 1 25 v1 rfl rfl) h1;clear hA0;have hG:=C06.zwG (nY (i:=7) (by kernel_rfl)) (C06.zfu (by kernel_rfl) hL) (fun _ _ h=>C06.zvU h) (C06.zwH (by rw[<-C06.zxK];simp only[Rows.topChainRow];simp) (by simp only[Rows.topChainRow];simp[Rows.laid_columnseven_pictures_floats,Lib.tabData]) (by simp only[Rows.topChainRow];simp[Rows.laid_columnseven_edits_shows,Lib.tabData]) (by simp only[Rows.topChainRow];simp[Rows.laid_columnseven_moves_legal,Lib.tabData]) (C06.zfu (by kernel_rfl) hL) hsh (fun _ _ h=>C06.zvU h));refine(C06.zfs hG r0 r1 (plain _ _ b0 b1)).mono fun e W' ⟨he,hk⟩=>?_
 subst he;exact⟨_,rfl,_,_,_,[],_,[],hW',trodAll_mk1 (shut_bool Tryz.underlying4 _),trodAll_mk2 (Below.trod C06.zpx (by kernel_rfl) (of_decide_eq_true (by kernel_rfl)) h0k hk.below (fun x hx=>hlt x (by simp[hx]))) (Below.trod C06.zpx (by kernel_rfl) (of_decide_eq_true (by kernel_rfl)) h1k hk.below (fun x hx=>hlt x (by simp[hx]))),rfl,hk.below.frame _,fun h=>by cases h⟩
end TopChain
end Go.Proofs.YtdkkileemeopbaaGreatDoor
end
section
set_option maxHeartbeats 4000000
set_option maxRecDepth 100000
namespace Go.Proofs.YtdkkileemeopbaaGreatDoor
open Go Go.ChangeShapes Go.WideShapes Go.ChangeAt Go.RowKit Go.Vc Go.Am
open Go.ChangeMaps (open_string shut_string)
namespace TopChain
theorem zsS(os:Os):laidMet Tryz.prog Rows.topChainRow.laid ((zcu os).forCall (fun _ _=>0) ⟨#[],#[.agg #[.int .u8 0,.int .u8 0,.int .u8 0,.bool false,.slice none 0 0],.slice none 0 0],[]⟩).memory:=
 C06.zft 8 257 (by kernel_rfl)
theorem zxE(os:Os){H:Type}(enc:TypeId×Value->H):∃places,DataW.whole enc Tryz.prog ((zcu os).forCall (fun _ _=>0) ⟨#[],#[.agg #[.int .u8 0,.int .u8 0,.int .u8 0,.bool false,.slice none 0 0],.slice none 0 0],[]⟩).memory Tryz.f3.params.toList Rows.topChainSpec.vars false ([.agg #[.int .u8 0,.int .u8 0,.int .u8 0,.bool false,.slice none 0 0],.slice none 0 0]:List Value) 8=some ([.agg [.lit (.int .u8 0),.lit (.int .u8 0),.lit (.int .u8 0),.lit (.bool false),.nil],.nil],[],places):=
 ⟨[],by kernel_rfl⟩
theorem zwA(plain:∀(x0:C06.F)(x1:(List C06.Link)),C06.InF x0->(∀v∈x1,C06.XN v)->∃N,C06.qS N x0 (x1.map C06.Zf)=some true)(os:Os)(started:os.Started)(H:Type)(enc:TypeId×Value->H)(F:Stop.Interp):
  ReturnsInHanded {} Tryz.checked os 3 .any ((OpenSpec.ofChange Rows.topChainSpec).preRow enc Tryz.prog Tryz.f3 Rows.topChainRow.domain false Rows.topChainRow.laid) (((OpenSpec.ofChange Rows.topChainSpec).at F).post enc Tryz.prog Tryz.f3 false true false false):=by
 obtain⟨places,hx⟩:=zxE os enc;refine returnsInHanded_of_row (C:=Tryz.checked) (s:=OpenSpec.ofChange Rows.topChainSpec) C06.own started (by kernel_rfl) Tryz.func3
  (witness_row_atRef (enc:=enc) (C:=Tryz.checked) false (zcu os) #[.agg #[.int .u8 0,.int .u8 0,.int .u8 0,.bool false,.slice none 0 0],.slice none 0 0] rfl (by kernel_rfl) (by kernel_rfl) (by kernel_rfl)
   (OpenSpec.preRow_of_cond 8 hx (by kernel_rfl) (fun k hk=>by cases hk) (by kernel_rfl) (zsS os))) ?_
 intro W base args ds gs before hval hW _ _ _ hL hsh _;exact ztL plain H enc W base args ds gs before hval hW hL hsh
theorem zx0:(Rows.topChainRow.inPlace==Tryz.pinned.checked.prog.inPlace 3)=true:=by kernel_rfl
theorem zxZ:(Rows.topChainRow.unfollowed==Tryz.pinned.checked.prog.unfollowed 3)=true:=by kernel_rfl
theorem zxY:(Rows.topChainRow.recurses==Tryz.pinned.checked.prog.recurses 3)=true:=by kernel_rfl
theorem zxX:(Rows.topChainRow.named==Tryz.pinned.checked.prog.varsNamed 3)=true:=by kernel_rfl
theorem facts:joinedFacts Tryz.pinned.checked.prog 3 Tryz.f3 (OpenSpec.ofChange Rows.topChainSpec).bare Rows.topChainRow=true:=by unfold joinedFacts;rw[zx0,zxZ,zxY,zxX];kernel_rfl
theorem zya(plain:∀(x0:C06.F)(x1:(List C06.Link)),C06.InF x0->(∀v∈x1,C06.XN v)->∃N,C06.qS N x0 (x1.map C06.Zf)=some true):Rows.TopChainSaid:=
 OpenClaim.holds_of_cond 3 Tryz.f3 rfl rfl rfl rfl rfl rfl rfl ⟨rfl,rfl,rfl,rfl,rfl⟩ rfl rfl rfl rfl rfl (by kernel_rfl) Tryz.func3 facts
  (of_decide_eq_true (by kernel_rfl)) (by unfold Func.isWrapper;first|(rw[if_pos (by decide+kernel)];kernel_rfl)|(rw[if_neg (by decide+kernel)];exact⟨rfl,rfl⟩))
  (fun os started H enc _ F=>by rw[OpenClaim.pre_eq_preRow];exact zwA plain os started H enc F)
theorem zqy(f:FuncId)(fn:Func)(hf:Tryz.pinned.checked.prog.funcNamed "columnseven/columnseventop.TopChain" =some f)(hfn:Tryz.pinned.checked.prog.funcs[f]? =some fn):
  true=Tryz.pinned.checked.prog.looks []/\∀(j:Nat) t,fn.params[j]? =some t->Tryz.pinned.checked.prog.wantsStandIn t=false:=by
 obtain rfl:f=3:=Option.some.inj ((show Tryz.prog.funcNamed "columnseven/columnseventop.TopChain" =some 3 by kernel_rfl).symm.trans hf)|>.symm;obtain rfl:fn=Tryz.f3:=(Option.some.inj (Tryz.func3.symm.trans hfn)).symm;refine⟨by kernel_rfl,fun j t ht=>?_⟩;rw[Tryz.params3]at ht;have ht:=Array.mem_of_getElem? ht;simp only[List.mem_toArray,mU,List.not_mem_nil,or_false]at ht;rcases ht with rfl|rfl
 ·exact (show Tryz.prog.wantsStandIn 24=false by kernel_rfl)
 ·exact (show Tryz.prog.wantsStandIn 25=false by kernel_rfl)
theorem zyh(plain:∀(x0:C06.F)(x1:(List C06.Link)),C06.InF x0->(∀v∈x1,C06.XN v)->∃N,C06.qS N x0 (x1.map C06.Zf)=some true):Rows.TopChainCardSaid:=
 Claim7.holds_tied_plain_at .later [] _ _ _ _ (zya plain) (fun _ h=>by cases h) (by kernel_rfl) (fun _ h=>by cases h) topChain_row_tie rfl ⟨rfl,rfl⟩ (by kernel_rfl) rfl zqy (by kernel_rfl)
end TopChain
end Go.Proofs.YtdkkileemeopbaaGreatDoor
end
section
namespace Go.Proofs.C06
open Go Go.RowKit Go.Vc Go.Am
theorem zxP{x:Link}(h:XN x):LX x:=⟨h.1.1,h.1.2,h.2.1.1,h.2.1.2,h.2.2.1.1,h.2.2.1.2,h.2.2.2.1.1,h.2.2.2.2.1.1,h.2.2.2.2.2.1.1,h.2.2.2.2.2.2.1.1,h.2.2.2.2.2.2.2.1.1,h.2.2.2.2.2.2.2.2.1.1,h.2.2.2.2.2.2.2.2.2.1.1,h.2.2.2.2.2.2.2.2.2.2.1⟩
theorem znr(x:F)(l:List Link)(h:InF x)(hl:∀v∈l,XN v):∃N,qS N x (l.map Zf)=some true:=zgW x l h.1.1 h.1.2 h.2.1.1 h.2.1.2 h.2.2.1.1 h.2.2.1.2 (fun v hv=>zxP (hl v hv))
end Go.Proofs.C06
namespace Go.Proofs.YtdkkileemeopbaaGreatDoor.TopChain
theorem proved:Rows.TopChainCardSaid:=zyh C06.znr
end Go.Proofs.YtdkkileemeopbaaGreatDoor.TopChain
end
