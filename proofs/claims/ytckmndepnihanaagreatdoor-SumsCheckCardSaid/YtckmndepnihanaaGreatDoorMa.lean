/-
  A part of the proof of the laws.
-/
import Derived.Test.YtckmndepnihanaaGreatDoorUd
import Derived.Test.YtckmndepnihanaaGreatDoorUa
import Derived.Test.YtckmndepnihanaaGreatDoorCi
section
set_option maxRecDepth 100000
namespace Go.Proofs.C06
open Go Go.RowKit Go.Vc Go.Am Go.Dg
theorem zni(N:Nat){a b c:Nat}(ha:a≤9)(hb:b≤9)(hc:c≤1):∃d c':Nat,zhb N (a:Int) (b:Int) (c:Int)=some ((d:Int),(c':Int))∧d≤9∧c'≤1∧d+b+c=a+10*c':=by
 unfold zhb;by_cases h:a<b+c
 ·refine⟨a+10-b-c,1,?_,by omega,by omega,by omega⟩;rw[zN (by omega) (by omega),za,zN (by omega) (by omega),za,zp,if_pos (by omega),zN (by omega) (by omega),za,
   show(a:Int)-b-c+10=((a+10-b-c:Nat):Int)by omega]
  rfl
 ·refine⟨a-b-c,0,?_,by omega,by omega,by omega⟩;rw[zN (by omega) (by omega),za,zN (by omega) (by omega),za,zp,if_neg (by omega),za,za,
   show(a:Int)-b-c=((a-b-c:Nat):Int)by omega]
  rfl
theorem Z0{N L:Nat}{x y:List UInt8}(hx:Digs x)(hy:Digs y)(hxl:x.length=L)(hyl:y.length=L)(hL:L≤1000):∀(k t c:Nat)(b:List UInt8),t≤L→L-t<k→b.length=L→Digs (b.drop (L-t))→c≤1→
  val (b.drop (L-t))+val y%10^t=val x%10^t+c*10^t→
  ∃(r:List UInt8)(c':Nat),jT N k x y (c:Int) (L:Int) (t:Int) b=some (r,(c':Int))∧Digs r∧r.length=L∧c'≤1∧val r+val y=val x+c'*10^L
 |0,t,c,b,_,hk,_,_,_,_=>by omega
 |k+1,t,c,b,ht,hk,hb,hD,hc,hv=>by
  show∃(r:List UInt8)(c':Nat),qB N (jT N k) x y (c:Int) (L:Int) (t:Int) b=_∧_;unfold qB;rw[zp];by_cases h:t<L
  ·have hi:L-1-t<L:=by omega
   have dX:=Zo hx (i:=L-1-t) (by omega);have dY:=Zo hy (i:=L-1-t) (by omega);have eX:byteAt x ((L-1-t:Nat):Int)-48=(((x.getD (L-1-t) 0).toNat-48:Nat):Int):=by rw[JB];omega
   have eY:byteAt y ((L-1-t:Nat):Int)-48=(((y.getD (L-1-t) 0).toNat-48:Nat):Int):=by rw[JB];omega
   have lX:=Vr hx (t:=t) (by omega);have lY:=Vr hy (t:=t) (by omega);rw[hxl]at lX;rw[hyl]at lY;generalize (x.getD (L-1-t) 0).toNat=p at dX eX lX;generalize (y.getD (L-1-t) 0).toNat=q at dY eY lY;obtain⟨w,c',m1,m2,m3,m4⟩:=zni N (a:=p-48) (b:=q-48) (c:=c) (by omega) (by omega) hc;have eR:(48:Int)+(w:Int)=((48+w:Nat):Int):=by omega
   rw[if_pos (by omega),hxl,show((L:Nat):Int)-1-(t:Int)=((L-1-t:Nat):Int)by omega,zN (by omega) (by omega),za,zN (by omega) (by omega),za,z7 hi,za,eX,jH (by omega) (by omega),zN (by omega) (by omega),za,
    hyl,z7 hi,za,eY,jH (by omega) (by omega),zN (by omega) (by omega),za,m1,zl]
   dsimp only;rw[eR,zN (by omega) (by omega),za,hb,z7 hi,za,jH (by omega) (by omega),
    ziP (by omega) (by omega),Bool.and_self,za,zN (by omega) (by omega),za,Int.toNat_natCast,QC,show(t:Int)+1=((t+1:Nat):Int)by omega]
   have hdr:(b.set (L-1-t) (UInt8.ofNat (48+w))).drop (L-(t+1))=UInt8.ofNat (48+w)::b.drop (L-t):=by rw[show L-(t+1)=L-1-t by omega,VN (by rw[List.length_set];omega),List.getD_eq_getElem?_getD,List.getElem?_set_self (by omega),List.drop_set_of_lt (by omega),show L-1-t+1=L-t by omega];rfl
   have hdg:=Jw (d:=w) (by omega);refine Z0 hx hy hxl hyl hL k (t+1) c' _ (by omega) (by omega) (by rw[List.length_set];exact hb) ?_ m3 ?_
   ·rw[hdr];exact Digs.cons.2 ⟨by rw[hdg];omega,hD⟩
   ·rw[hdr,jo,hdg,List.length_drop,hb,show L-(L-t)=t by omega,show 48+w-48=w by omega,lX,lY];have e:=congrArg (· *10^t) m4;simp only[Nat.add_mul]at e;have e10:c'*10^(t+1)=10*c'*10^t:=by rw[Nat.pow_succ,Nat.mul_comm (10^t) 10,←Nat.mul_assoc,Nat.mul_comm c' 10]
    rw[e10];omega
  ·have htL:t=L:=by omega
   subst htL;have e1:val x%10^t=val x:=Nat.mod_eq_of_lt (hxl▸jI hx);have e2:val y%10^t=val y:=Nat.mod_eq_of_lt (hyl▸jI hy);rw[Nat.sub_self,List.drop_zero]at hD hv;rw[e1,e2]at hv;rw[if_neg (by omega)];exact⟨b,c,rfl,hD,hb,hc,hv⟩
theorem WU{N L:Nat}(hN:3000<N){x y:List UInt8}(hx:Digs x)(hy:Digs y)(hxl:x.length=L)(hyl:y.length=L)(hL:L≤1000)(hle:val y≤val x):
  ∃r,Jc N x y=some r∧Digs r∧r.length=L∧val r=val x-val y:=by
 unfold Jc Qs;have e2:mkOk 1 (x.length:Int)=true:=by show(Nat.ble (1*x.length) 281474976710656&&Nat.ble x.length 9223372036854775807)=true;rw[Nat.ble_eq_true_of_le (by omega),Nat.ble_eq_true_of_le (by omega)];rfl
 rw[e2,decide_eq_true rfl,Bool.and_self,za,Int.toNat_natCast,hxl];obtain⟨r,c',h1,h2,h3,h4,h5⟩:=Z0 (N:=N) hx hy hxl hyl hL N 0 0 (List.replicate L 0) (by omega) (by omega) (by rw[List.length_replicate]) (by rw[Nat.sub_zero,List.drop_of_length_le (by rw[List.length_replicate];omega)];exact Digs.nil) (by omega)
  (by rw[Nat.sub_zero,List.drop_of_length_le (by rw[List.length_replicate];omega),Nat.pow_zero,Nat.mod_one,Nat.mod_one,JH])
 have h1':jT N N x y 0 (L:Int) 0 (List.replicate L 0)=some (r,(c':Int)):=h1;rw[h1',zl];have hr:val r<10^L:=h3▸jI h2;refine⟨r,rfl,h2,h3,?_⟩;rcases(show c'=0∨c'=1 by omega)with rfl|rfl
 ·omega
 ·omega
theorem zrT{N:Nat}(hN:3000<N){a b:Decimal}(ha:VD a)(hb:VD b):∃ng l,zen N a b=some (nrm ng l ((maxS a b:Nat):Int))∧
  ((a.Neg=b.Neg∧ng=a.Neg∧val l=alD a (maxS a b)+alD b (maxS a b))∨(a.Neg≠b.Neg∧alD b (maxS a b)≤alD a (maxS a b)∧ng=a.Neg∧val l=alD a (maxS a b)-alD b (maxS a b))∨
   (a.Neg≠b.Neg∧alD a (maxS a b)<alD b (maxS a b)∧ng=b.Neg∧val l=alD b (maxS a b)-alD a (maxS a b))):=by
 by_cases hs:a.Neg=b.Neg
 ·obtain⟨l,h1,h2⟩:=zvO hN ha hb hs;exact⟨_,l,h1,.inl ⟨hs,rfl,h2⟩⟩
 ·obtain⟨L,hL0,hL,h1,h2,h3⟩:=zdX (N:=N) ha hb;have hM:maxS a b≤62:=by have:=ha.2.2.2.2.1;have:=hb.2.2.2.2.1;unfold maxS;omega
  have v1:=Zd _ _ h1;have v2:=Zd _ _ h2;have f1:=qd L (alD a (maxS a b));have f2:=qd L (alD b (maxS a b));have hlt:=zc7 f1 f2 ((jw L (alD a (maxS a b))).trans (jw L (alD b (maxS a b))).symm);rw[v1,v2]at hlt;have start:zen N a b=cond (!(Op.bytesLess (fmt L (alD a (maxS a b))) (fmt L (alD b (maxS a b)))))
    (bnd (Jc N (fmt L (alD a (maxS a b))) (fmt L (alD b (maxS a b)))) fun rr4=>bnd (jz N a.Neg rr4 ((maxS a b:Nat):Int)) fun rr5=>some (rr5.1,rr5.2))
    (bnd (Jc N (fmt L (alD b (maxS a b))) (fmt L (alD a (maxS a b)))) fun rr4=>bnd (jz N b.Neg rr4 ((maxS a b:Nat):Int)) fun rr5=>some (rr5.1,rr5.2)):=by
   unfold zen;rw[zja hN ha hb,zl,show(!decide ((0:Int)=0))=false by rfl];show(bnd (Q7 N a b) _)=_;rw[h3,zl,decide_eq_false hs];rfl
  rw[start];cases hb2:Op.bytesLess (fmt L (alD a (maxS a b))) (fmt L (alD b (maxS a b)))with
  |true=>have hl:=hlt.1 hb2;obtain⟨r,r1,r2,r3,r4⟩:=WU (N:=N) (L:=L) hN f2 f1 (jw _ _) (jw _ _) (by omega) (by rw[v1,v2];omega);rw[Bool.not_true,cond_false,r1,zl,qA hN b.Neg r2 (s:=((maxS a b:Nat):Int)) (by omega) (by omega) (by omega),zl];exact⟨_,r,rfl,.inr (.inr ⟨hs,hl,rfl,by rw[r4,v1,v2]⟩)⟩
  |false=>
   have hl:¬alD a (maxS a b)<alD b (maxS a b):=fun h=>by rw[hlt.2 h]at hb2;cases hb2
   obtain⟨r,r1,r2,r3,r4⟩:=WU (N:=N) (L:=L) hN f1 f2 (jw _ _) (jw _ _) (by omega) (by rw[v1,v2];omega);rw[Bool.not_false,cond_true,r1,zl,qA hN a.Neg r2 (s:=((maxS a b:Nat):Int)) (by omega) (by omega) (by omega),zl];exact⟨_,r,rfl,.inr (.inl ⟨hs,by omega,rfl,by rw[r4,v1,v2]⟩)⟩
end Go.Proofs.C06
end
section
set_option maxRecDepth 100000
namespace Go.Proofs.C06
open Go Go.RowKit Go.Vc Go.Am Go.Dg
theorem zvP{α:Type}{b:Bool}{x:Option α}(h:b=true):chk b x=x:=by rw[h];rfl
def vN:List Nat→Nat
 |[]=>0
 |d::r=>d*10^r.length+vN r
theorem qJ{l:List Nat}{p v:Nat}(h:p<l.length):(l.set p v).getD p 0=v:=by rw[List.getD_eq_getElem?_getD,List.getElem?_set_self h];rfl
theorem jE{l:List Nat}{p q v:Nat}(h:p≠q):(l.set p v).getD q 0=l.getD q 0:=by rw[List.getD_eq_getElem?_getD,List.getElem?_set_ne h,List.getD_eq_getElem?_getD]
theorem zfv:∀{u:List Nat}{p v:Nat},p<u.length→vN (u.set p v)+u.getD p 0*10^(u.length-1-p)=vN u+v*10^(u.length-1-p)
 |[],_,_,h=>absurd h (Nat.not_lt_zero _)
 |d::r,0,v,_=>by show v*10^r.length+vN r+d*10^(r.length+1-1-0)=d*10^r.length+vN r+v*10^(r.length+1-1-0);rw[show r.length+1-1-0=r.length by omega];omega
 |d::r,p+1,v,h=>by
  have hp:p<r.length:=by simpa using h
  have ih:=zfv (u:=r) (p:=p) (v:=v) hp;show d*10^(r.set p v).length+vN (r.set p v)+r.getD p 0*10^(r.length+1-1-(p+1))=d*10^r.length+vN r+v*10^(r.length+1-1-(p+1));rw[List.length_set,show r.length+1-1-(p+1)=r.length-1-p by omega];omega
theorem zsd{u:List Nat}(h:0<u.length):u.getD 0 0*10^(u.length-1)≤vN u:=by
 cases u with
 |nil=>cases h
 |cons d r=>show d*10^(r.length+1-1)≤d*10^r.length+vN r;rw[Nat.add_sub_cancel];omega
theorem zn1:∀n,vN (List.replicate n 0)=0
 |0=>rfl
 |n+1=>by rw[List.replicate_succ,vN,zn1 n,Nat.zero_mul]
def uN(u:List Nat):List Int:=u.map (fun n:Nat=>(n:Int))
theorem Jf(u:List Nat)(i:Nat):atI (uN u) (i:Int)=((u.getD i 0:Nat):Int):=by unfold atI uN;rw[Int.toNat_natCast,List.getD_eq_getElem?_getD,List.getD_eq_getElem?_getD,List.getElem?_map];cases u[i]? <;>rfl
theorem JM(u:List Nat)(i v:Nat):(uN u).set i ((v:Nat):Int)=uN (u.set i v):=by unfold uN;rw[List.map_set]
theorem yh(u:List Nat):(uN u).length=u.length:=by unfold uN;rw[List.length_map]
theorem zjH(n:Nat):List.replicate n (0:Int)=uN (List.replicate n 0):=by unfold uN;rw[List.map_replicate];rfl
def dg(l:List UInt8)(i:Nat):Nat:=(l.getD i 0).toNat-48
theorem dg9{l:List UInt8}(h:Digs l){i:Nat}(hi:i<l.length):dg l i≤9∧byteAt l (i:Int)-48=((dg l i:Nat):Int):=by have d:=Zo h (i:=i) hi;unfold dg;exact⟨by omega,by rw[JB];omega⟩
theorem znY{l:List UInt8}{j:Nat}(h:j<l.length):val (l.drop j)=dg l j*10^(l.length-1-j)+val (l.drop (j+1)):=by rw[VN h,jo,List.length_drop,show l.length-(j+1)=l.length-1-j by omega];rfl
theorem VR{N:Nat}{x y:List UInt8}(hx:Digs x)(hy:Digs y)(hxl:x.length≤10000)(hyl:y.length≤1000){i:Nat}(hi:i<x.length)(g0:List UInt8→List UInt8→Int→Int→List Int→Option (List UInt8))(t19:Int):
  ∀(k j b:Nat)(u:List Nat),u.length=x.length+y.length→j≤y.length→y.length-j<k→(∀p,u.getD p 0≤b)→b+81*(y.length-j)≤1000000000000→
  ∃u':List Nat,u'.length=u.length∧(∀p,u'.getD p 0≤b+81*(y.length-j))∧vN u'=vN u+dg x i*10^(x.length-1-i)*val (y.drop j)∧
   Zq N g0 k x y (i:Int) t19 (i:Int) (y.length:Int) (j:Int) (uN u)=g0 x y t19 ((i+1:Nat):Int) (uN u')
 |0,_,_,_,_,_,h,_,_=>by omega
 |k+1,j,b,u,hu,hj,hk,hb,hB=>by
  show∃u':List Nat,_∧_∧_∧Ql N g0 (Zq N g0 k) x y (i:Int) t19 (i:Int) (y.length:Int) (j:Int) (uN u)=_;unfold Ql;by_cases h:j<y.length
  ·obtain⟨h1,eX⟩:=dg9 hx hi;obtain⟨h2,eY⟩:=dg9 hy h;have hw:dg x i*dg y j≤81:=Nat.mul_le_mul h1 h2;have hp:i+j+1<u.length:=by omega
   have hbp:=hb (i+j+1);have hv:=zfv (u:=u) (p:=i+j+1) (v:=u.getD (i+j+1) 0+dg x i*dg y j) hp;have hd:=znY h;have hpw:10^(u.length-1-(i+j+1))=10^(x.length-1-i)*10^(y.length-1-j):=by rw[←Nat.pow_add,show u.length-1-(i+j+1)=x.length-1-i+(y.length-1-j)by omega]
   rw[hpw,Nat.add_mul]at hv;have hval:dg x i*10^(x.length-1-i)*val (y.drop j)=dg x i*dg y j*(10^(x.length-1-i)*10^(y.length-1-j))+dg x i*10^(x.length-1-i)*val (y.drop (j+1)):=by rw[hd,Nat.mul_add];congr 1;simp only[Nat.mul_assoc,Nat.mul_comm,Nat.mul_left_comm]
   generalize hw':dg x i*dg y j=w at hw hv hval;obtain⟨u',g1,g2,g3,g4⟩:=VR (N:=N) hx hy hxl hyl hi g0 t19 k (j+1) (b+81) (u.set (i+j+1) (u.getD (i+j+1) 0+w)) (by rw[List.length_set];exact hu) (by omega) (by omega) (fun p=>by
    by_cases e:i+j+1=p
    ·subst e;rw[qJ hp];omega
    ·rw[jE e];have:=hb p;omega) (by omega)
   refine⟨u',by rw[g1,List.length_set],fun p=>by have:=g2 p;omega,by rw[g3,hval];omega,?_⟩;have m1:((dg x i:Nat):Int)*((dg y j:Nat):Int)=((w:Nat):Int):=by rw[←hw'];exact (Int.natCast_mul _ _).symm
   rw[←g4,zp,if_pos (by omega),show(i:Int)+(j:Int)+1=((i+j+1:Nat):Int)by omega,eX,eY,jH (n:=((dg x i:Nat):Int)) (by omega) (by omega),jH (n:=((dg y j:Nat):Int)) (by omega) (by omega),m1,Jf,
    show((u.getD (i+j+1) 0:Nat):Int)+((w:Nat):Int)=((u.getD (i+j+1) 0+w:Nat):Int)by omega,Int.toNat_natCast,JM,show(j:Int)+1=((j+1:Nat):Int)by omega]
   have c1:inKb .i64 ((i:Int)+(j:Int))=true:=zN (by omega) (by omega);have c2:inKb .i64 ((i+j+1:Nat):Int)=true:=zN (by omega) (by omega);have c3:inIx ((i+j+1:Nat):Int) (uN u).length=true:=z7 (by rw[yh];exact hp);have c4:inIx (i:Int) x.length=true:=z7 hi;have c5:inKb .i64 ((dg x i:Nat):Int)=true:=zN (by omega) (by omega);have c6:inIx (j:Int) y.length=true:=z7 h;have c7:inKb .i64 ((dg y j:Nat):Int)=true:=zN (by omega) (by omega);have c8:inKb .i64 ((w:Nat):Int)=true:=zN (by omega) (by omega);have c9:inKb .i64 ((u.getD (i+j+1) 0+w:Nat):Int)=true:=zN (by omega) (by omega);have c10:inKb .i64 ((j+1:Nat):Int)=true:=zN (by omega) (by omega);simp only[c1,c2,c3,c4,c5,c6,c7,c8,c9,c10,za]
  ·have e:j=y.length:=by omega
   subst e;refine⟨u,rfl,fun p=>by have:=hb p;omega,by rw[List.drop_length,JH,Nat.mul_zero,Nat.add_zero],?_⟩;rw[zp,if_neg (by omega),show(i:Int)+1=((i+1:Nat):Int)by omega,zN (by omega) (by omega),za]
theorem VS{N:Nat}(hN:20000<N){x y:List UInt8}(hx:Digs x)(hy:Digs y)(hxl:x.length≤10000)(hyl:y.length≤1000):∀(k i b:Nat)(u:List Nat),u.length=x.length+y.length→i≤x.length→x.length-i<k→(∀p,u.getD p 0≤b)→
  b+81*y.length*(x.length-i)≤1000000000000→∃u':List Nat,u'.length=u.length∧(∀p,u'.getD p 0≤b+81*y.length*(x.length-i))∧vN u'=vN u+val (x.drop i)*val y∧
   yA N k x y (x.length:Int) (i:Int) (uN u)=Zp N N (((x.length+y.length:Nat):Int)-1) (uN u')
 |0,_,_,_,_,_,h,_,_=>by omega
 |k+1,i,b,u,hu,hi,hk,hb,hB=>by
  show∃u':List Nat,_∧_∧_∧Qm N (yA N k) x y (x.length:Int) (i:Int) (uN u)=_;unfold Qm;by_cases h:i<x.length
  ·have hs:81*y.length*(x.length-i)=81*y.length*(x.length-(i+1))+81*y.length:=by rw[show x.length-i=x.length-(i+1)+1 by omega,Nat.mul_succ]
   obtain⟨u1,g1,g2,g3,g4⟩:=VR (N:=N) hx hy hxl hyl h (yA N k) (x.length:Int) N 0 b u hu (Nat.zero_le _) (by omega) hb (by omega);rw[Nat.sub_zero]at g2;obtain⟨u2,e1,e2,e3,e4⟩:=VS hN hx hy hxl hyl k (i+1) (b+81*y.length) u1 (g1.trans hu) (by omega) (by omega) g2 (by omega);refine⟨u2,e1.trans g1,fun p=>by have:=e2 p;omega,?_,?_⟩
   ·rw[e3,g3,znY h,List.drop_zero,Nat.add_mul];omega
   ·have g4':Zq N (yA N k) N x y (i:Int) (x.length:Int) (i:Int) (y.length:Int) 0 (uN u)=_:=g4;rw[zp,if_pos (by omega),g4',e4]
  ·have e:i=x.length:=by omega
   subst e;refine⟨u,rfl,fun p=>by have:=hb p;omega,by rw[List.drop_length,JH,Nat.zero_mul,Nat.add_zero],?_⟩;rw[zp,if_neg (by omega),yh,hu,zN (by omega) (by omega),za]
def dC(d:Nat):UInt8:=UInt8.ofNat (48+d)
theorem VP{N L:Nat}{u:List Nat}(hu:u.length=L)(hL:L≤20000)(h9:∀p,u.getD p 0≤9):∀(k t:Nat)(r:List UInt8),t≤L→L-t<k→r.length=L-t→
  qz N k (L:Int) (t:Int) ((u.take t).map dC++r) (uN u)=some (u.map dC)
 |0,_,_,_,h,_=>by omega
 |k+1,t,r,ht,hk,hr=>by
  show Qj N (qz N k) (L:Int) (t:Int) ((u.take t).map dC++r) (uN u)=_;unfold Qj;have hl:((u.take t).map dC).length=t:=by rw[List.length_map,List.length_take];omega
  by_cases h:t<L
  ·have h1:=h9 t;cases r with
   |nil=>rw[List.length_nil]at hr;omega
   |cons c s=>
    have hset:((u.take t).map dC++c::s).set t (toByte ((48+u.getD t 0:Nat):Int))=(u.take (t+1)).map dC++s:=by
     have e:u.take (t+1)=u.take t++[u.getD t 0]:=by rw[List.take_succ_eq_append_getElem (by omega),List.getD_eq_getElem?_getD,List.getElem?_eq_getElem (by omega)];rfl
     rw[List.set_append,if_neg (by omega),hl,Nat.sub_self,e,List.map_append,List.append_assoc,QC];rfl
    have ih:=VP (N:=N) hu hL h9 k (t+1) s (by omega) (by omega) (by rw[List.length_cons]at hr;omega);rw[zp,if_pos (by omega),Jf,show(48:Int)+((u.getD t 0:Nat):Int)=((48+u.getD t 0:Nat):Int)by omega,jH (by omega) (by omega),Int.toNat_natCast,hset,show(t:Int)+1=((t+1:Nat):Int)by omega,ih];have c1:inIx (t:Int) (uN u).length=true:=z7 (by rw[yh];omega);have c2:inIx (t:Int) ((u.take t).map dC++c::s).length=true:=z7 (by rw[List.length_append,hl,List.length_cons];omega);have c3:inKb .i64 ((48+u.getD t 0:Nat):Int)=true:=zN (by omega) (by omega);have c4:inKb .u8 ((48+u.getD t 0:Nat):Int)=true:=ziP (by omega) (by omega);have c5:inKb .i64 ((t+1:Nat):Int)=true:=zN (by omega) (by omega);simp only[c1,c2,c3,c4,c5,Bool.and_self,za]
  ·have e:t=L:=by omega
   subst e;have:r=[]:=List.eq_nil_of_length_eq_zero (by omega);subst this;rw[zp,if_neg (by omega),List.append_nil,List.take_of_length_le (by omega)]
theorem VQ{N L:Nat}(hN:L<N)(hL:L≤20000){b:Nat}(hB:b≤1000000000000):∀(k i:Nat)(u:List Nat),u.length=L→i<L→i<k→(∀p,p<i→u.getD p 0≤b)→u.getD i 0≤2*b→(∀p,i<p→u.getD p 0≤9)→
  ∃u':List Nat,u'.length=L∧vN u'=vN u∧(∀p,0<p→u'.getD p 0≤9)∧Zp N k (i:Int) (uN u)=qz N N (L:Int) 0 (List.replicate L 0) (uN u')
 |0,_,_,_,_,h,_,_,_=>by omega
 |k+1,i,u,hu,hi,hk,h1,h2,h3=>by
  show∃u':List Nat,_∧_∧_∧Qk N (Zp N k) (i:Int) (uN u)=_;unfold Qk;cases i with
  |zero=>
   refine⟨u,hu,rfl,h3,?_⟩;have c1:mkOk 1 ((L:Nat):Int)=true:=by show(Nat.ble (1*L) 281474976710656&&Nat.ble L 9223372036854775807)=true;rw[Nat.ble_eq_true_of_le (by omega),Nat.ble_eq_true_of_le (by omega)];rfl
   rw[zp,if_neg (by omega),yh,hu,c1,decide_eq_true rfl,Bool.and_self,za,Int.toNat_natCast]
  |succ i=>
   have hb1:=h1 i (by omega);have p1:i<u.length:=by omega
   have p2:i+1<(u.set i (u.getD i 0+u.getD (i+1) 0/10)).length:=by rw[List.length_set];omega
   have v1:=zfv (u:=u) (p:=i) (v:=u.getD i 0+u.getD (i+1) 0/10) p1;have v2:=zfv (u:=u.set i (u.getD i 0+u.getD (i+1) 0/10)) (p:=i+1) (v:=u.getD (i+1) 0%10) p2;rw[jE (by omega),List.length_set]at v2;have hpw:10^(u.length-1-i)=10*10^(u.length-1-(i+1)):=by rw[show u.length-1-i=u.length-1-(i+1)+1 by omega,Nat.pow_succ,Nat.mul_comm]
   have hdm:u.getD (i+1) 0*10^(u.length-1-(i+1))=10*(u.getD (i+1) 0/10)*10^(u.length-1-(i+1))+u.getD (i+1) 0%10*10^(u.length-1-(i+1)):=by rw[←Nat.add_mul,Nat.div_add_mod]
   rw[Nat.add_mul,hpw]at v1;have hcomm:u.getD (i+1) 0/10*(10*10^(u.length-1-(i+1)))=10*(u.getD (i+1) 0/10)*10^(u.length-1-(i+1)):=by rw[←Nat.mul_assoc,Nat.mul_comm _ 10]
   obtain⟨u',g1,g2,g3,g4⟩:=VQ hN hL hB k i ((u.set i (u.getD i 0+u.getD (i+1) 0/10)).set (i+1) (u.getD (i+1) 0%10)) (by rw[List.length_set,List.length_set];exact hu) (by omega) (by omega)
    (fun p hp=>by rw[jE (by omega),jE (by omega)];exact h1 p (by omega))
    (by rw[jE (by omega),qJ p1];omega)
    (fun p hp=>by
     by_cases e:i+1=p
     ·subst e;rw[qJ p2];omega
     ·rw[jE e,jE (by omega)];exact h3 p (by omega))
   refine⟨u',g1,by rw[g2];omega,g3,?_⟩;have e0:((i+1:Nat):Int)-1=(i:Int):=by omega
   have e1:((u.getD (i+1) 0:Nat):Int)/10=((u.getD (i+1) 0/10:Nat):Int):=rfl;have e2:((u.getD (i+1) 0:Nat):Int)%10=((u.getD (i+1) 0%10:Nat):Int):=rfl;have e3:((u.getD i 0:Nat):Int)+((u.getD (i+1) 0/10:Nat):Int)=((u.getD i 0+u.getD (i+1) 0/10:Nat):Int):=rfl;rw[←g4,zp,if_pos (by omega),e0,Jf,Jf,e1,e3,Int.toNat_natCast,Int.toNat_natCast,JM,Jf,jE (by omega),e2,JM];have c1:inKb .i64 (i:Int)=true:=zN (by omega) (by omega);have c2:inIx (i:Int) (uN u).length=true:=z7 (by rw[yh];omega);have c3:inIx ((i+1:Nat):Int) (uN u).length=true:=z7 (by rw[yh];omega);have c4:nonneg ((u.getD (i+1) 0:Nat):Int)=true:=rfl;have c5:inKb .i64 ((u.getD (i+1) 0/10:Nat):Int)=true:=zN (by omega) (by omega);have c6:inKb .i64 ((u.getD i 0+u.getD (i+1) 0/10:Nat):Int)=true:=zN (by omega) (by omega);have c7:inIx ((i+1:Nat):Int) (uN (u.set i (u.getD i 0+u.getD (i+1) 0/10))).length=true:=z7 (by rw[yh];exact p2);simp only[c1,c2,c3,c4,c5,c6,c7,za];rfl
theorem zmG{u:List Nat}(h9:∀p,u.getD p 0≤9):Digs (u.map dC)∧val (u.map dC)=vN u:=by
 induction u with
 |nil=>exact⟨Digs.nil,JH⟩
 |cons d r ih=>
  obtain⟨g1,g2⟩:=ih fun p=>h9 (p+1)
  have h0:d≤9:=h9 0;have hd:(dC d).toNat=48+d:=Jw (d:=d) (by omega);rw[List.map_cons];exact⟨Digs.cons.2 ⟨by rw[hd];omega,g1⟩,by rw[jo,hd,g2,List.length_map,show 48+d-48=d by omega];rfl⟩
theorem zfc{N:Nat}(hN:20000<N){x y:List UInt8}(hx:Digs x)(hy:Digs y)(hxl:x.length≤10000)(hy0:y≠[])(hyl:y.length≤1000):
  ∃r,zdA N x y=some r∧Digs r∧r.length=x.length+y.length∧val r=val x*val y:=by
 have h0:0<y.length:=List.length_pos_iff.2 hy0;have hm:81*y.length*x.length≤81*1000*10000:=Nat.mul_le_mul (Nat.mul_le_mul_left _ hyl) hxl;have z0:∀(n p:Nat),(List.replicate n 0).getD p 0=0:=fun n p=>by rw[List.getD_eq_getElem?_getD,List.getElem?_replicate];split<;>rfl
 obtain⟨u,g1,g2,g3,g4⟩:=VS (N:=N) hN hx hy hxl hyl N 0 0 (List.replicate (x.length+y.length) 0) (by rw[List.length_replicate]) (Nat.zero_le _) (by omega) (fun p=>by rw[z0];exact Nat.le_refl _) (by rw[Nat.sub_zero];omega);rw[List.length_replicate]at g1;rw[zn1,Nat.zero_add,List.drop_zero]at g3;rw[Nat.zero_add,Nat.sub_zero]at g2;obtain⟨u',e1,e2,e3,e4⟩:=VQ (N:=N) (L:=x.length+y.length) (by omega) (by omega) (b:=81*y.length*x.length) (by omega) N (x.length+y.length-1) u g1 (by omega) (by omega) (fun p _=>g2 p) (by have:=g2 (x.length+y.length-1);omega) (fun p hp=>by rw[List.getD_eq_getElem?_getD,List.getElem?_eq_none (by omega)];exact Nat.zero_le _);have hv:vN u'<10^(x.length+y.length):=by rw[e2,g3,Nat.pow_add];exact Nat.mul_lt_mul'' (jI hx) (jI hy)
 have h9:∀p,u'.getD p 0≤9:=fun p=>by
  cases p with
  |zero=>
   have hh:=zsd (u:=u') (by omega);rw[e1]at hh;have hp:10^(x.length+y.length)=10*10^(x.length+y.length-1):=by rw[show x.length+y.length=x.length+y.length-1+1 by omega,Nat.pow_succ,Nat.mul_comm];rfl
   have:u'.getD 0 0*10^(x.length+y.length-1)<10*10^(x.length+y.length-1):=by omega
   have:=Nat.lt_of_mul_lt_mul_right this;omega
  |succ p=>exact e3 _ (Nat.succ_pos _)
 obtain⟨d1,d2⟩:=zmG h9;refine⟨u'.map dC,?_,d1,by rw[List.length_map,e1],by rw[d2,e2,g3]⟩;have l3:=VP (N:=N) (L:=x.length+y.length) e1 (by omega) h9 N 0 (List.replicate (x.length+y.length) 0) (Nat.zero_le _) (by omega) (by rw[List.length_replicate];rfl);have l3':qz N N ((x.length+y.length:Nat):Int) 0 (List.replicate (x.length+y.length) 0) (uN u')=some (u'.map dC):=l3;have c1:mkOk 8 ((x.length+y.length:Nat):Int)=true:=by show(Nat.ble (8*(x.length+y.length)) 281474976710656&&Nat.ble (x.length+y.length) 9223372036854775807)=true;rw[Nat.ble_eq_true_of_le (by omega),Nat.ble_eq_true_of_le (by omega)];rfl
 unfold zdA;rw[show(x.length:Int)+(y.length:Int)=((x.length+y.length:Nat):Int)by omega,zN (by omega) (by omega),za,c1,decide_eq_true rfl,Bool.and_self,za,Int.toNat_natCast,zjH];have g4':yA N N x y (x.length:Int) 0 (uN (List.replicate (x.length+y.length) 0))=_:=g4;rw[g4',show((x.length+y.length:Nat):Int)-1=((x.length+y.length-1:Nat):Int)by omega,e4,l3']
end Go.Proofs.C06
end
section
set_option maxRecDepth 100000
namespace Go.Proofs.C06
open Go Go.RowKit Go.Vc Go.Am Go.Dg
theorem VL{β:Type}{v w:Nat}(hw:w≠0)(p q:Option β):
  cond (decide (((dstr w).length:Int)<((dstr v).length:Int))) p (cond (decide (((dstr v).length:Int)=((dstr w).length:Int))) (cond (!(Op.bytesLess (dstr v) (dstr w))) p q) q)=if w≤v then p else q:=by
 obtain⟨w1,w2,w3⟩:=yU hw;by_cases hv:v=0
 ·subst hv;have e:(dstr 0).length=0:=by rw[Jv.2 rfl];rfl
  rw[e,zp,if_neg (by omega),zp,if_neg (by omega),if_neg (by omega)]
 obtain⟨v1,v2,v3⟩:=yU hv;by_cases h1:(dstr w).length<(dstr v).length
 ·have:10^(dstr w).length≤10^((dstr v).length-1):=Nat.pow_le_pow_right (by decide) (by omega);rw[zp,if_pos (by omega),if_pos (by omega)]
 ·by_cases h2:(dstr v).length=(dstr w).length
  ·have hl:=zc7 (yz v) (yz w) h2;rw[yg,yg]at hl;rw[zp,if_neg (by omega),zp,if_pos (by omega)];cases hb:Op.bytesLess (dstr v) (dstr w)with
   |true=>rw[Bool.not_true,cond_false,if_neg (by have:=hl.1 hb;omega)]
   |false=>
    have:¬v<w:=fun h=>by rw[hl.2 h]at hb;cases hb
    rw[Bool.not_false,cond_true,if_pos (by omega)]
  ·have:10^(dstr v).length≤10^((dstr w).length-1):=Nat.pow_le_pow_right (by decide) (by omega);rw[zp,if_neg (by omega),zp,if_neg (by omega),if_neg (by omega)]
theorem WS{v w:Nat}(hw:w≠0)(h:w≤v):(dstr w).length≤(dstr v).length:=by obtain⟨w1,w2,w3⟩:=yU hw;obtain⟨v1,v2,v3⟩:=yU (v:=v) (by omega);exact zdx (by omega)
theorem zwE{N:Nat}(hN:3000<N){v w:Nat}(hw:w≠0)(h:w≤v)(hl:(dstr v).length≤1000):∃r,YU N (dstr w) ((dstr v).length:Int)=some (fmt (dstr v).length w)∧Jc N (dstr v) (fmt (dstr v).length w)=some r∧js r [48]=some (dstr (v-w)):=by have hm:=WS hw h;have hp:=WD (N:=N) (yz w) hm hl;rw[yg]at hp;obtain⟨v1,v2,v3⟩:=yU (v:=v) (by omega);have hf:=Zd (dstr v).length w (by omega);obtain⟨r,r1,r2,r3,r4⟩:=WU (N:=N) hN (yz v) (qd (dstr v).length w) rfl (jw _ _) hl (by rw[hf,yg];exact h);refine⟨r,hp,r1,?_⟩;rw[hf,yg]at r4;rw[qv,←ZG r2,r4]
abbrev St1:=(List UInt8×List UInt8×List UInt8×Int×Int×Int)⊕(List UInt8×List UInt8×List UInt8×Int×Int×Int×List UInt8)
abbrev St0:=(List UInt8×List UInt8×List UInt8×Int×Int)⊕(List UInt8×List UInt8×List UInt8×Int×Int×List UInt8)
def st1(b:Option (List UInt8))(x y r:List UInt8)(n a t:Int):St1:=match b with
 |none=>.inl (x,y,r,n,a,t)
 |some b=>.inr (x,y,r,n,a,t,b)
def st0(b:Option (List UInt8))(x y r:List UInt8)(a t:Int):St0:=match b with
 |none=>.inl (x,y,r,a,t)
 |some b=>.inr (x,y,r,a,t,b)
def bOf(b:Option (List UInt8)):List UInt8:=match b with
 |none=>[]
 |some b=>b
theorem zmH{n:Nat}(_h:n≤9):[((48+n:Nat):Int)].map toByte=[dC n]:=by rw[List.map_cons,QC];rfl
theorem zwg{l:List UInt8}(h:l.length≤100000):jJ 1 l.length=true:=by unfold jJ;simp only[Bool.and_eq_true,Nat.ble_eq];omega
theorem zhI(N:Nat){n:Nat}(h:n≤9):JA N ((48+n:Nat):Int)=some [dC n]:=by unfold JA;rw[ziP (by omega) (by omega),Bool.true_and,za,zmH h,List.nil_append,zwg (by simp),za]
theorem zjj(N:Nat){n:Nat}(h:n≤9){b:List UInt8}(hb:b.length≤1000):Qu N ((48+n:Nat):Int) b=some (b++[dC n]):=by unfold Qu;rw[ziP (by omega) (by omega),Bool.true_and,za,zmH h,zwg (by rw[List.length_append,List.length_singleton];omega),za]
theorem Qo{N:Nat}(hN:3000<N){w:Nat}(hw:w≠0)(g0:St0→Option (List UInt8))(x:List UInt8)(a:Int){t:Nat}(ht:t≤1000)(b:Option (List UInt8))(hb:(bOf b).length≤1000):
  ∀(k n v:Nat),v+n*w<10*w→10-n<k→(dstr v).length≤1000→
  ∃v' n':Nat,v'<w∧n'≤9∧zY N g0 k (st1 b x (dstr w) (dstr v) (n:Int) a (t:Int))=g0 (.inr (x,dstr w,dstr v',a,((t+1:Nat):Int),bOf b++[dC n']))
 |0,_,_,_,h,_=>by omega
 |k+1,n,v,hv,hk,hl=>by
  have hn:n≤9:=by
   have:n*w<10*w:=by omega
   have:=Nat.lt_of_mul_lt_mul_right this;omega
  have i1:(n:Int)+1=((n+1:Nat):Int):=by omega
  have i2:(t:Int)+1=((t+1:Nat):Int):=by omega
  have i3:(48:Int)+(n:Int)=((48+n:Nat):Int):=by omega
  have c1:inKb .i64 ((n+1:Nat):Int)=true:=zN (by omega) (by omega);have c2:inKb .i64 ((t+1:Nat):Int)=true:=zN (by omega) (by omega);have c3:inKb .i64 ((48+n:Nat):Int)=true:=zN (by omega) (by omega);have c4:IntKind.wrap .u8 ((48+n:Nat):Int)=((48+n:Nat):Int):=jH (by omega) (by omega);by_cases h:w≤v
  ·have hs:v-w+(n+1)*w<10*w:=by rw[Nat.add_mul,Nat.one_mul];omega
   have hn9:n+1≤9:=by
    have:(n+1)*w<10*w:=by omega
    have:=Nat.lt_of_mul_lt_mul_right this;omega
   obtain⟨r,r1,r2,r3⟩:=zwE hN hw h hl;have hl2:(dstr (v-w)).length≤1000:=by
    by_cases e:v-w=0
    ·rw[e,Jv.2 rfl];exact Nat.zero_le _
    ·exact Nat.le_trans (WS e (Nat.sub_le _ _)) hl
   obtain⟨v',n',g1,g2,g3⟩:=Qo hN hw g0 x a ht b hb k (n+1) (v-w) hs (by omega) hl2;refine⟨v',n',g1,g2,?_⟩;rw[←g3];cases b with
   |none=>show yp N g0 (zY N g0 k) x (dstr w) (dstr v) (n:Int) a (t:Int)=_;unfold yp;rw[VL hw,if_pos h];unfold ZZ;rw[r1,zl,r2,zl,r3,zl,i1,c1,za];rfl
   |some b=>show yo N g0 (zY N g0 k) x (dstr w) (dstr v) (n:Int) a (t:Int) b=_;unfold yo;rw[VL hw,if_pos h];unfold qL;rw[r1,zl,r2,zl,r3,zl,i1,c1,za];rfl
  ·refine⟨v,n,by omega,hn,?_⟩;cases b with
   |none=>show yp N g0 (zY N g0 k) x (dstr w) (dstr v) (n:Int) a (t:Int)=_;unfold yp;rw[VL hw,if_neg h,i3,c3,za,c4,zhI N hn,zl,i2,c2,za];rfl
   |some b=>show yo N g0 (zY N g0 k) x (dstr w) (dstr v) (n:Int) a (t:Int) b=_;unfold yo;rw[VL hw,if_neg h,i3,c3,za,c4,zjj N hn (b:=b) hb,zl,i2,c2,za];rfl
theorem zlp{x:List UInt8}{t:Nat}(h:t<x.length):Vc.sub x (t:Int) ((t+1:Nat):Int)=[x.getD t 0]:=by unfold Vc.sub;rw[Int.toNat_natCast,Int.toNat_natCast,List.drop_take,VN h,show t+1-t=1 by omega];rfl
theorem Qp{N:Nat}(hN:3000<N){w:Nat}(hw:w≠0)(hwl:(dstr w).length≤900){x:List UInt8}(hx:Digs x)(hxl:x.length≤900):∀(k t v:Nat)(b:Option (List UInt8)),t≤x.length→x.length-t<k→v<w→(bOf b).length=t→Digs (bOf b)→
  ∃r,zB N k (st0 b x (dstr w) (dstr v) (x.length:Int) (t:Int))=some r∧Digs r∧r.length=x.length
 |0,_,_,_,_,h,_,_,_=>by omega
 |k+1,t,v,b,ht,hk,hv,hb,hd=>by
  by_cases h:t<x.length
  ·have dX:=dg9 hx h;have dD:=Zo hx h;have hc:Digs (dstr v++[x.getD t 0]):=by
    intro c hc;rcases List.mem_append.1 hc with hc|hc
    ·exact yz v c hc
    ·rw[List.mem_singleton]at hc;subst hc;exact dD
   have hcv:val (dstr v++[x.getD t 0])=v*10+dg x t:=by rw[yO,yg,jo,JH,List.length_singleton];unfold dg;simp
   have hlt:v*10+dg x t+0*w<10*w:=by omega
   have hlen:(dstr v).length≤900:=by
    by_cases e:v=0
    ·rw[e,Jv.2 rfl];exact Nat.zero_le _
    ·exact Nat.le_trans (WS e (by omega)) hwl
   have hlen2:(dstr (v*10+dg x t)).length≤1000:=by rw[←hcv,ZG hc];have:=zcA (dstr v++[x.getD t 0]);rw[List.length_append,List.length_singleton]at this;omega
   obtain⟨v',n',g1,g2,g3⟩:=Qo hN hw (zB N k) x (x.length:Int) (t:=t) (by omega) b (by omega) N 0 (v*10+dg x t) hlt (by omega) hlen2;have hdn:Digs [dC n']:=(zmG (u:=[n']) (fun p=>by cases p with
    |zero=>exact g2
    |succ p=>exact Nat.zero_le _)).1
   have hda:Digs (bOf b++[dC n']):=fun c hc=>by
    rcases List.mem_append.1 hc with hc|hc
    ·exact hd c hc
    ·exact hdn c hc
   obtain⟨r,e1,e2,e3⟩:=Qp hN hw hwl hx hxl k (t+1) v' (some (bOf b++[dC n'])) (by omega) (by omega) g1 (by show(bOf b++[dC n']).length=_;rw[List.length_append,List.length_singleton,hb]) hda;have e1':zB N k (.inr (x,dstr w,dstr v',(x.length:Int),((t+1:Nat):Int),bOf b++[dC n']))=some r:=e1;refine⟨r,?_,e2,e3⟩;have i2:(t:Int)+1=((t+1:Nat):Int):=by omega
   have c2:inKb .i64 ((t+1:Nat):Int)=true:=zN (by omega) (by omega);have c3:zO (t:Int) ((t+1:Nat):Int) x.length=true:=zS.2 ⟨by omega,by omega,by omega⟩;have c4:yC (dstr v) [x.getD t 0]=true:=yv (by rw[List.length_singleton];omega);have c5:js (dstr v++[x.getD t 0]) [48]=some (dstr (v*10+dg x t)):=by rw[qv,←ZG hc,hcv]
   rw[e1']at g3;cases b with
   |none=>have g3':zY N (zB N k) N (.inl (x,dstr w,dstr (v*10+dg x t),0,(x.length:Int),(t:Int)))=some r:=g3;show yu N (zB N k) x (dstr w) (dstr v) (x.length:Int) (t:Int)=some r;unfold yu;rw[zp,if_pos (by omega),i2,c2,za,c3,za,zlp h,c4,za,c5,zl,g3']
   |some b=>have g3':zY N (zB N k) N (.inr (x,dstr w,dstr (v*10+dg x t),0,(x.length:Int),(t:Int),b))=some r:=g3;show yq N (zB N k) x (dstr w) (dstr v) (x.length:Int) (t:Int) b=some r;unfold yq;rw[zp,if_pos (by omega),i2,c2,za,c3,za,zlp h,c4,za,c5,zl,g3']
  ·have e:t=x.length:=by omega
   cases b with
   |none=>refine⟨[],?_,Digs.nil,by rw[List.length_nil,←e,←hb];rfl⟩;show yu N (zB N k) x (dstr w) (dstr v) (x.length:Int) (t:Int)=some [];unfold yu;rw[zp,if_neg (by omega)]
   |some b=>
    have hb:b.length=t:=hb;refine⟨b,?_,hd,by rw[hb,e]⟩;show yq N (zB N k) x (dstr w) (dstr v) (x.length:Int) (t:Int) b=some b;unfold yq;have hm:XJ b=true:=by unfold XJ;simp only[decide_eq_true_eq];omega
    rw[zp,if_neg (by omega),hm,za,zl]
theorem zi9{N:Nat}(hN:3000<N){x y:List UInt8}(hx:Digs x)(hy:Digs y)(hxl:x.length≤900)(hyl:y.length≤900)(h0:val y≠0):∃r,VZ N x y=some r∧Digs r∧r.length=x.length:=by
 have hl:(dstr (val y)).length≤900:=by rw[ZG hy];exact Nat.le_trans (zcA y) hyl
 obtain⟨r,e1,e2,e3⟩:=Qp hN h0 hl hx hxl N 0 0 none (Nat.zero_le _) (by omega) (Nat.pos_of_ne_zero h0) rfl Digs.nil;have e1':zB N N (.inl (x,dstr (val y),[],(x.length:Int),0))=some r:=by rw[←Jv.2 (rfl:(0:Nat)=0)];exact e1
 refine⟨r,?_,e2,e3⟩;unfold VZ;rw[qv,zl,←ZG hy,e1']
theorem zvn(neg:Bool)(l:List UInt8)(s:Int):(nrm neg l s).1.Digits.length≤62∧(nrm neg l s).2≠5:=by
 unfold nrm;split
 ·exact⟨Nat.zero_le _,by decide⟩
 ·exact⟨by show(ZL neg _ _).2.1.length≤62;omega,show(0:Int)≠5 by decide⟩
def Yz(o:Option (Decimal×Int)):Prop:=∃r e,o=some (r,e)∧e≠5∧r.Digits.length≤1000
theorem Qc{o:Option (Decimal×Int)}{neg:Bool}{l:List UInt8}{s:Int}(h:o=some (nrm neg l s)):Yz o:=by have:=zvn neg l s;exact⟨_,_,h,this.2,Nat.le_trans this.1 (by omega)⟩
theorem dBoth_any{N:Nat}(hN:3000<N){a b:Decimal}(ha:a.Digits.length≤1000)(hb:b.Digits.length≤1000):(Qr N a b=some 0∧VD a∧VD b)∨Qr N a b=some 1:=by
 unfold Qr;rw[Zr hN ha,zl,Zr hN hb,zl];by_cases h1:VD a
 ·by_cases h2:VD b
  ·rw[if_pos h1,if_pos h2];exact .inl ⟨rfl,h1,h2⟩
  ·rw[if_pos h1,if_neg h2];exact .inr rfl
 ·by_cases h2:VD b
  ·rw[if_neg h1,if_pos h2];exact .inr rfl
  ·rw[if_neg h1,if_neg h2];exact .inr rfl
theorem znH{N:Nat}(hN:20000<N){a b:Decimal}(ha:a.Digits.length≤1000)(hb:b.Digits.length≤1000):Yz (zvM N a b):=by
 unfold zvM;rcases dBoth_any (N:=N) (by omega) ha hb with⟨h,va,vb⟩|h
 ·rw[h,zl,decide_eq_true rfl,Bool.not_true,cond_false];obtain⟨r,r1,r2,r3,r4⟩:=zfc hN va.2.1 vb.2.1 (by omega) vb.1 (by omega);have sa:=va.2.2.2;have sb:=vb.2.2.2;have la:=va.2.2.1;have lb:=vb.2.2.1;rw[r1,zl,zN (by omega) (by omega),za,qA (by omega) _ r2 (by omega) (by omega) (by omega),zl];exact Qc rfl
 ·rw[h];exact⟨_,1,rfl,by decide,Nat.zero_le _⟩
theorem V4{N:Nat}(hN:20000<N){x y:List UInt8}(hx:Digs x)(hy:Digs y)(hxl:x.length≤900)(hyl:y.length≤900)(h0:val y≠0)(a b c:Decimal):Yz (V5 N x y a b c):=by obtain⟨r,r1,r2,r3⟩:=zi9 (N:=N) (by omega) hx hy hxl hyl h0;unfold V5;rw[r1,zl,qA (by omega) _ r2 (by omega) (by omega) (by omega),zl];exact Qc rfl
theorem zcu(n:Nat):Digs (List.replicate n 48):=fun c hc=>by rw[List.mem_replicate]at hc;rw[hc.2];decide
theorem zmE{a b:List UInt8}(ha:Digs a)(hb:Digs b):Digs (a++b):=fun c hc=>(List.mem_append.1 hc).elim (ha c) (hb c)
theorem znI{N:Nat}(hN:20000<N){a b:Decimal}(ha:a.Digits.length≤1000)(hb:b.Digits.length≤1000):Yz (zvN N a b):=by
 unfold zvN;rcases dBoth_any (N:=N) (by omega) ha hb with⟨h,va,vb⟩|h
 ·rw[h,zl,decide_eq_true rfl,Bool.not_true,cond_false];by_cases hz:b.Digits=[48]
  ·rw[decide_eq_true hz,cond_true];exact⟨_,7,rfl,by decide,Nat.zero_le _⟩
  ·have h0:val b.Digits≠0:=fun e=>hz (by
    have:=vb.form;rw[e,XR]at this;rw[←this];rfl)
   have sa:=va.2.2.2;have sb:=vb.2.2.2;have la:=va.2.2.1;have lb:=vb.2.2.1;rw[decide_eq_false hz,cond_false,zN (by omega) (by omega),za,zN (by omega) (by omega),za,zp];by_cases hs:0≤30-a.Scale+b.Scale
   ·obtain⟨m,hm⟩:=Int.eq_ofNat_of_zero_le hs;rw[if_pos hs,hm,ZB (by omega),zl,yv (by rw[List.length_replicate];omega),za];exact V4 hN (zmE va.2.1 (zcu m)) vb.2.1 (by rw[List.length_append,List.length_replicate];omega) (by omega) h0 _ _ _
   ·obtain⟨m,hm⟩:=Int.eq_ofNat_of_zero_le (show 0≤ -(30-a.Scale+b.Scale)by omega);rw[if_neg hs,zN (by omega) (by omega),za,hm,ZB (by omega),zl,yv (by rw[List.length_replicate];omega),za];exact V4 hN va.2.1 (zmE vb.2.1 (zcu m)) (by omega) (by rw[List.length_append,List.length_replicate];omega) (by rw[yw];exact Nat.mul_ne_zero h0 (Nat.pos_iff_ne_zero.1 (pow_pos m))) _ _ _
 ·rw[h];exact⟨_,1,rfl,by decide,Nat.zero_le _⟩
end Go.Proofs.C06
end
section
set_option maxRecDepth 100000
namespace Go.Proofs.C06
open Go Go.RowKit Go.Vc Go.Am Go.Dg
theorem Qn(N:Nat)(neg:Bool){l:List UInt8}{s:Int}(b:Decimal)(h1: -10000≤s)(hl:l.length≤10000):
  jY N neg l s b=some (if 62<l.length+(-s).toNat∨62<s.toNat then(zlk,14)else(Decimal.mk neg (l++List.replicate (-s).toNat 48) (s.toNat:Int),0)):=by
 unfold jY;rw[zp];by_cases h:s<0
 ·obtain⟨m,hm⟩:∃m:Nat,-s=m:=⟨(-s).toNat,by omega⟩
  have e1:s.toNat=0:=by omega
  rw[if_pos h,hm,zN (by omega) (by omega),za,ZB (by omega),zl,yv (by simp;omega),za];have:=qK N neg (l++List.replicate m 48) 0 b;rw[e1,Int.toNat_natCast];rw[List.length_append,List.length_replicate]at this;exact this
 ·obtain⟨m,hm⟩:∃m:Nat,s=m:=⟨s.toNat,by omega⟩
  rw[if_neg h];have e2:(-s).toNat=0:=by omega
  rw[e2,List.replicate_zero,List.append_nil,Nat.add_zero,hm,qK,Int.toNat_natCast]
theorem Xj(N:Nat)(neg:Bool)(b:Decimal):∀(m n:Nat)(l:List UInt8)(s:Int),s.toNat=m→m<n→Digs l→(∃c r,l=c::r∧c≠48)→l.length≤10000→s≤10000→
  yR N n neg l s b=jY N neg (dstr (zK s.toNat (val l)).1) (if s<0 then s else((zK s.toNat (val l)).2:Int)) b
 |m,0,l,s,hm,hn,_,_,_,_=>by omega
 |m,n+1,l,s,hm,hn,hd,⟨c,r,hcr,hc⟩,hl,hs=>by
  have hself:dstr (val l)=l:=zhz hd fun c' r' h=>by rw[hcr]at h;cases h;exact hc
  show qg N (yR N n) neg l s b=_;unfold qg;rw[zp];by_cases h:0<s
  ·obtain⟨q,rfl⟩:∃q:Nat,s=(q+1:Nat):=⟨(s-1).toNat,by omega⟩
   rcases List.eq_nil_or_concat l with h0|⟨t,x,h0⟩
   ·rw[h0]at hcr;cases hcr
   ·rw[List.concat_eq_append]at h0;subst h0;rw[List.length_append]at hl;simp only[List.length_cons,List.length_nil]at hl;rw[Digs.append,Digs.cons]at hd;have hv:=zcy t x;have hx:=hd.2.1;rw[if_pos h,zaj t x (by omega),zl,zp,Int.toNat_natCast];by_cases hx0:x=48
    ·have ht:∃c r,t=c::r∧c≠48:=by
      cases t with
      |nil=>cases hcr;exact absurd hx0 hc
      |cons c' r'=>cases hcr;exact⟨_,_,rfl,hc⟩
     have e1:(((t++[x]).length:Int)-1)=(t.length:Int):=by simp
     have e2:(((q+1:Nat):Int)-1)=(q:Int):=by omega
     have hin:zO 0 (t.length:Int) (t++[x]).length=true:=by unfold zO;simp;omega
     have e3:Zt (t++[x]) (t.length:Int)=t:=by unfold Zt;simp
     have e4:zK (q+1) (val (t++[x]))=zK q (val t):=by subst hx0;rw[hv,zK,if_pos (by simp)];congr 1;simp
     rw[if_pos hx0,e1,e2,zN (by omega) (by omega),za,hin,za,zN (by omega) (by omega),za,e3,
      Xj N neg b q n t (q:Int) (by simp) (by simp at hm;omega) hd.1 ht (by omega) (by omega),e4,Int.toNat_natCast,if_neg (by omega),if_neg (by omega)]
    ·have hx1:x.toNat≠48:=fun e=>hx0 (UInt8.toNat_inj.1 e)
     have e4:zK (q+1) (val (t++[x]))=(val (t++[x]),q+1):=by rw[zK,if_neg (by rw[hv];omega)]
     rw[if_neg hx0,e4,hself,if_neg (by omega)]
  ·rw[if_neg h];have e1:s.toNat=0:=by omega
   rw[e1];simp only[zK,hself];by_cases h2:s<0
   ·rw[if_pos h2]
   ·rw[if_neg h2,show s=((0:Nat):Int)by omega]
theorem zas{N:Nat}(hN:20000<N)(neg:Bool){l:List UInt8}(hd:Digs l)(hl:l.length≤10000){s:Int}(h1: -10000≤s)(h2:s≤10000):jz N neg l s=some (nrm neg l s):=by
 unfold jz;rw[qv,zl,zp];by_cases h0:val l=0
 ·rw[if_pos ((YD hd).2 h0)];unfold nrm;rw[h0,Nat.zero_mul,XR];rfl
 ·have hne:tz l≠[]:=fun e=>h0 ((YD hd).1 e)
  rw[if_neg hne];obtain⟨c,r,hcr⟩:∃c r,tz l=c::r:=by
   rcases htz:tz l with _|⟨c,r⟩
   ·exact absurd htz hne
   ·exact⟨c,r,rfl⟩
  have hlen:=zcA l;rw[Xj N neg _ s.toNat N (tz l) s rfl (by omega) hd.tz ⟨c,r,hcr,X1 hcr⟩ (by omega) h2,JG];have hsl:(dstr (zK s.toNat (val l)).1).length≤10000:=by
   have hlt:=jI hd;have hle:(zK s.toNat (val l)).1≤val l:=by have:=(Xx s.toNat (val l)).1;have hp:=pow_pos (s.toNat-(zK s.toNat (val l)).2);rw[this];exact Nat.le_trans (Nat.le_of_eq (Nat.mul_one _).symm) (by rw[←this];exact Nat.le_trans (Nat.mul_le_mul_left _ hp) (Nat.le_of_eq this.symm))
   have:=zdx (v:=(zK s.toNat (val l)).1) (n:=l.length) (by omega);omega
  by_cases hs:s<0
  ·rw[if_pos hs,Qn N neg _ h1 hsl];have e1:s.toNat=0:=by omega
   unfold nrm;rw[e1];have e2:zK 0 (val l)=(val l,0):=rfl;have hv:val l*10^(-s).toNat≠0:=fun e=>by
    rcases Nat.mul_eq_zero.1 e with e|e
    ·exact h0 e
    ·have:=pow_pos (-s).toNat;omega
   have e3:ZL neg (val l*10^(-s).toNat) 0=(neg,dstr (val l)++List.replicate (-s).toNat 48,0):=by unfold ZL;rw[if_neg hv,zdw h0];rfl
   rw[e2,e3];dsimp only;rw[List.length_append,List.length_replicate];rfl
  ·rw[if_neg hs,Qn N neg _ (by omega) hsl];unfold nrm;have e1:(-s).toNat=0:=by omega
   have e3:ZL neg (val l*10^(-s).toNat) s.toNat=(neg,dstr (zK s.toNat (val l)).1,(zK s.toNat (val l)).2):=by rw[e1,Nat.pow_zero,Nat.mul_one];unfold ZL;rw[if_neg h0]
   have e4:(-(((zK s.toNat (val l)).2:Nat):Int)).toNat=0:=by omega
   rw[e3,e4,Int.toNat_natCast,Nat.add_zero,List.replicate_zero,List.append_nil];rfl
theorem puM{M:Nat}:∀{l:List UInt8}{a:Nat},Digs l→Lib.parseUintM M a l≠ .syntax
 |[],a,_=>by unfold Lib.parseUintM;exact fun h=>by cases h
 |c::r,a,h=>by
  have hc:=Digs.cons.1 h;unfold Lib.parseUintM;rw[if_pos hc.1];split
  ·exact fun h=>by cases h
  ·split
   ·exact fun h=>by cases h
   ·exact puM hc.2
theorem puB{l:List UInt8}(h:Digs l)(h0:l≠[]):Lib.parseUintB 64 l≠ .syntax:=by unfold Lib.parseUintB;rw[if_neg h0];exact puM h
theorem piB{c:UInt8}{r:List UInt8}(h:Lib.parseUintB 64 (if c.toNat=43∨c.toNat=45 then r else c::r)≠ .syntax):Lib.parseIntB 64 (c::r)≠ .syntax:=by
 unfold Lib.parseIntB;dsimp only;split
 ·rename_i e;exact absurd e h
 ·exact fun h=>by cases h
 ·split
  ·exact fun h=>by cases h
  ·split
   ·exact fun h=>by cases h
   ·exact fun h=>by cases h
theorem zhi{l:List UInt8}(hl:l.length≤1000)(h:Lib.parseIntB 64 l≠ .syntax):∃r,VA l 10 64=some r:=by
 unfold VA;rw[decide_eq_true (show l.length≤281474976710656 by omega),decide_eq_true rfl,decide_eq_true rfl,Bool.and_self,Bool.and_self,za];split
 ·exact⟨_,rfl⟩
 ·exact⟨_,rfl⟩
 ·rename_i e1 e2;cases hp:Lib.parseIntB 64 l with
  |ok v=>exact absurd hp (e1 v)
  |range=>exact absurd hp e2
  | «syntax» =>exact absurd hp h
theorem zi4{N:Nat}(hN:3000<N){d:Decimal}(hd:VD d):∃r,zhC N d=some r:=by
 obtain⟨h0,h1,h2,h3,h4,h5⟩:=hd;unfold zhC;rw[Zr hN (by omega),if_pos ⟨h0,h1,h2,h3,h4,h5⟩,zl,decide_eq_true rfl,Bool.not_true,cond_false,zp];by_cases hs:0<d.Scale
 ·rw[if_pos hs];exact⟨_,rfl⟩
 ·rw[if_neg hs];have fin:∀{l:List UInt8},l.length≤1000→Lib.parseIntB 64 l≠ .syntax→∃r,Jx N l=some r:=fun{l} hl h=>by
   obtain⟨r,hr⟩:=zhi hl h;unfold Jx;rw[hr,zl];cases r with
   |inl r=>exact⟨_,rfl⟩
   |inr r=>exact⟨_,rfl⟩
  cases hn:d.Neg with
  |true=>rw[cond_true,yv (by simp;omega),za];refine fin (by simp;omega) (piB ?_);rw[if_pos (.inr rfl)];exact puB h1 h0
  |false=>
   rw[cond_false];refine fin (by omega) ?_;cases hdg:d.Digits with
   |nil=>exact absurd hdg h0
   |cons c r=>rw[hdg]at h1;have hc:=(Digs.cons.1 h1).1;refine piB ?_;rw[if_neg (by omega)];exact puB h1 (by simp)
theorem VT{N:Nat}(hN:20000<N){a b:Decimal}(ha:VD a){m:Nat}(hm:m≤99):∀(k t:Nat)(l:List UInt8),t≤m→m-t<k→Digs l→l.length≤62*t+1→Yz (VU N k (m:Int) l (m:Int) (t:Int) a b)
 |0,_,_,_,h,_,_=>by omega
 |k+1,t,l,ht,hk,hd,hl=>by
  show Yz (WT N (VU N k) (m:Int) l (m:Int) (t:Int) a b);obtain⟨h0,h1,h2,h3,h4,h5⟩:=ha;unfold WT;rw[zp];by_cases h:t<m
  ·obtain⟨r,r1,r2,r3,r4⟩:=zfc hN hd h1 (by omega) h0 (by omega);rw[if_pos (by omega),r1,zl,qv,zl,zN (by omega) (by omega),za,show(t:Int)+1=((t+1:Nat):Int)by omega];exact VT hN ⟨h0,h1,h2,h3,h4,h5⟩ hm k (t+1) (tz r) (by omega) (by omega) r2.tz (by have:=zcA r;omega)
  ·obtain⟨s,hs⟩:=Int.eq_ofNat_of_zero_le h3;have hsm:s*m≤62*99:=Nat.mul_le_mul (by omega) hm;have e:(s:Int)*(m:Int)=((s*m:Nat):Int):=(Int.natCast_mul _ _).symm;rw[if_neg (by omega),hs,e,zN (by omega) (by omega)];cases a.Neg with
   |true=>rw[cond_true,zvP (by rfl),za,zas hN _ hd (by omega) (by omega) (by omega),zl];exact Qc rfl
   |false=>rw[cond_false,za,zas hN _ hd (by omega) (by omega) (by omega),zl];exact Qc rfl
theorem znE{N:Nat}(hN:20000<N){a b:Decimal}(ha:a.Digits.length≤1000)(hb:b.Digits.length≤1000):Yz (zvK N a b):=by
 unfold zvK;rcases dBoth_any (N:=N) (by omega) ha hb with⟨h,va,vb⟩|h
 ·obtain⟨⟨n,e⟩,hr⟩:=zi4 (N:=N) (by omega) vb;rw[h,zl,decide_eq_true rfl,Bool.not_true,cond_false,hr,zl];dsimp only;rw[zp];by_cases h1:e=12
  ·rw[if_pos h1,h1];exact⟨_,12,rfl,by decide,Nat.zero_le _⟩
  ·rw[if_neg h1];by_cases h2:e=0
   ·rw[decide_eq_true h2,Bool.not_true,cond_false,zp];by_cases h3:n<0
    ·rw[if_pos h3];exact⟨_,13,rfl,by decide,Nat.zero_le _⟩
    ·rw[if_neg h3,zp];by_cases h4:99<n
     ·rw[if_pos h4];exact⟨_,13,rfl,by decide,Nat.zero_le _⟩
     ·obtain⟨m,rfl⟩:=Int.eq_ofNat_of_zero_le (show 0≤n by omega);rw[if_neg h4];exact VT hN va (m:=m) (by omega) N 0 [49] (Nat.zero_le _) (by omega) (by intro c hc;rw[List.mem_singleton]at hc;subst hc;decide) (by simp)
   ·rw[decide_eq_false h2,Bool.not_false,cond_true];exact⟨_,13,rfl,by decide,Nat.zero_le _⟩
 ·rw[h];exact⟨_,1,rfl,by decide,Nat.zero_le _⟩
theorem zfd{N:Nat}(hN:20000<N){a b:Decimal}(ha:a.Digits.length≤1000)(hb:b.Digits.length≤1000):Yz (zen N a b):=by
 rcases dBoth_any (N:=N) (by omega) ha hb with⟨h,va,vb⟩|h
 ·obtain⟨ng,l,h1,_⟩:=zrT (N:=N) (by omega) va vb;exact Qc h1
 ·unfold zen;rw[h];exact⟨_,1,rfl,by decide,Nat.zero_le _⟩
theorem zdB(N:Nat)(d:Decimal):∃r,zdC N d=some r∧r.Digits=d.Digits:=by
 unfold zdC;cases d.Neg
 ·exact⟨_,rfl,rfl⟩
 ·exact⟨_,rfl,rfl⟩
theorem znD{N:Nat}(hN:20000<N){a b:Decimal}(ha:a.Digits.length≤1000)(hb:b.Digits.length≤1000):Yz (zvJ N a b):=by
 unfold zvJ;rcases dBoth_any (N:=N) (by omega) ha hb with⟨h,va,vb⟩|h
 ·obtain⟨r,h1,h2⟩:=zdB N b;obtain⟨q,e,h3,h4,h5⟩:=zfd hN ha (b:=r) (by rw[h2];exact hb);rw[h,zl,decide_eq_true rfl,Bool.not_true,cond_false,h1,zl,h3,zl];exact⟨q,e,rfl,h4,h5⟩
 ·rw[h];exact⟨_,1,rfl,by decide,Nat.zero_le _⟩
theorem znG{N:Nat}(hN:20000<N){a:Decimal}(ha:a.Digits.length≤1000):Yz (zvL N a):=by
 unfold zvL;obtain⟨r,h1,h2⟩:=zdB N a;rw[Zr (by omega) ha,zl];by_cases hv:VD a
 ·rw[if_pos hv,decide_eq_true rfl,Bool.not_true,cond_false,h1,zl];exact⟨r,0,rfl,by decide,by rw[h2];exact ha⟩
 ·rw[if_neg hv];exact⟨_,1,rfl,by decide,Nat.zero_le _⟩
end Go.Proofs.C06
end
section
set_option maxRecDepth 100000
namespace Go.Proofs.C06
open Go Go.RowKit Go.Vc Go.Am Go.Dg
def zG(d:Node):AV:=.agg [.int .u8 d.Op,.int .i64 d.Left,.int .i64 d.Right]
def decV(d:Decimal):AV:=.agg [.bool d.Neg,.str d.Digits,.int .i64 d.Scale]
theorem Zl{α:Type}(f:α→AV){l:List α}{i:Nat}{d:α}(h:l[i]? =some d):atV (l.map f) (i:Int)=f d:=by unfold atV;rw[Int.toNat_natCast,List.getD_eq_getElem?_getD,List.getElem?_map,h];rfl
theorem ixM{α:Type}(f:α→AV){l:List α}{i:Nat}(h:i<l.length):inIx (i:Int) (l.map f).length=true:=z7 (by rw[List.length_map];exact h)
theorem nv0(d:Node):cellOf (zG d) 0=.int .u8 d.Op:=rfl
theorem nv1(d:Node):cellOf (zG d) 1=.int .i64 d.Left:=rfl
theorem nv2(d:Node):cellOf (zG d) 2=.int .i64 d.Right:=rfl
theorem nv3(d:Node):qQ (zG d) 3=true:=rfl
theorem dv0(d:Decimal):cellOf (decV d) 0=.bool d.Neg:=rfl
theorem dv1(d:Decimal):cellOf (decV d) 1=.str d.Digits:=rfl
theorem dv2(d:Decimal):cellOf (decV d) 2=.int .i64 d.Scale:=rfl
theorem dv3(d:Decimal):qQ (decV d) 3=true:=rfl
theorem iO(k:IntKind)(n:Int):Am.intOf (.int k n)=n:=rfl
theorem bO(b:Bool):jZ (.bool b)=b:=rfl
theorem sO(s:List UInt8):Zv (.str s)=s:=rfl
theorem k8(n:Int):zF .u8 (.int .u8 n)=true:=rfl
theorem k64(n:Int):zF .i64 (.int .i64 n)=true:=rfl
theorem kB(b:Bool):jP (.bool b)=true:=rfl
theorem kS_(s:List UInt8):Zc (.str s)=true:=rfl
def qj(m:Nat)(i:Nat)(d:Node):Bool:=cond (decide (d.Op=1)) (cond (decide (0≤d.Left)) (cond (decide (d.Left<(m:Int))) (decide (d.Right=0)) false) false) (cond (decide (d.Op=7)) (cond (decide (0≤d.Left)) (cond (decide (d.Left<(i:Int))) (decide (d.Right=0)) false) false) (cond (decide (2≤d.Op)) (cond (decide (d.Op≤6)) (cond (decide (0≤d.Left)) (cond (decide (d.Left<(i:Int))) (cond (decide (0≤d.Right)) (decide (d.Right<(i:Int))) false) false) false) false) false))
theorem validB_of{m i:Nat}{d:Node}(h:qj m i d=true):
  (d.Op=1∧0≤d.Left∧d.Left<m∧d.Right=0)∨(d.Op=7∧0≤d.Left∧d.Left<i∧d.Right=0)∨(2≤d.Op∧d.Op≤6∧0≤d.Left∧d.Left<i∧0≤d.Right∧d.Right<i):=by
 unfold qj at h;simp only[zp]at h;by_cases h1:d.Op=1
 ·rw[if_pos h1]at h;by_cases h2:0≤d.Left
  ·rw[if_pos h2]at h;by_cases h3:d.Left<m
   ·rw[if_pos h3]at h;exact .inl ⟨h1,h2,h3,of_decide_eq_true h⟩
   ·rw[if_neg h3]at h;cases h
  ·rw[if_neg h2]at h;cases h
 ·rw[if_neg h1]at h;by_cases h7:d.Op=7
  ·rw[if_pos h7]at h;by_cases h2:0≤d.Left
   ·rw[if_pos h2]at h;by_cases h3:d.Left<i
    ·rw[if_pos h3]at h;exact .inr (.inl ⟨h7,h2,h3,of_decide_eq_true h⟩)
    ·rw[if_neg h3]at h;cases h
   ·rw[if_neg h2]at h;cases h
  ·rw[if_neg h7]at h;by_cases a1:2≤d.Op
   ·rw[if_pos a1]at h;by_cases a2:d.Op≤6
    ·rw[if_pos a2]at h;by_cases a3:0≤d.Left
     ·rw[if_pos a3]at h;by_cases a4:d.Left<i
      ·rw[if_pos a4]at h;by_cases a5:0≤d.Right
       ·rw[if_pos a5]at h;exact .inr (.inr ⟨a1,a2,a3,a4,a5,of_decide_eq_true h⟩)
       ·rw[if_neg a5]at h;cases h
      ·rw[if_neg a4]at h;cases h
     ·rw[if_neg a3]at h;cases h
    ·rw[if_neg a2]at h;cases h
   ·rw[if_neg a1]at h;cases h
theorem zm6(N:Nat)(k i:Int):Wo N k i=some (cond (decide (0≤k)) (decide (k<i)) false,i):=by unfold Wo;cases decide (0≤k)<;>rfl
theorem zm5(N:Nat){ns:List Node}{ls:List AV}{i:Nat}{d:Node}(h:ns[i]? =some d):zfS N ⟨ns.map zG,ls⟩ (i:Int)=some (qj ls.length i d):=by
 have hl:=(List.getElem?_eq_some_iff.1 h).1;unfold zfS qj;simp only[Zl zG h,ixM zG hl,nv0,nv1,nv2,nv3,k8,k64,iO,Bool.and_true,za,zm6,zl];cases decide (d.Op=1)
 ·cases decide (d.Op=7)
  ·cases decide (2≤d.Op)
   ·rfl
   ·cases decide (d.Op≤6)
    ·rfl
    ·cases decide (0≤d.Left)
     ·rfl
     ·cases decide (d.Left<(i:Int))<;>rfl
  ·cases decide (0≤d.Left)
   ·rfl
   ·cases decide (d.Left<(i:Int))<;>rfl
 ·cases decide (0≤d.Left)
  ·rfl
  ·cases decide (d.Left<(ls.length:Int))<;>rfl
def Ja(u:List Nat)(i:Nat):List Nat:=u.set i (u.getD i 0+1)
def JI(u:List Nat)(d:Node):List Nat:=if 1<d.Op then(if d.Op<7 then Ja (Ja u d.Left.toNat) d.Right.toNat else Ja u d.Left.toNat)else u
theorem zdk(u:List Nat)(i:Nat):(Ja u i).length=u.length:=by unfold Ja;rw[List.length_set]
theorem zh0(u:List Nat)(d:Node):(JI u d).length=u.length:=by
 unfold JI
 (repeat' split)<;>simp[zdk]
def BdN(u:List Nat)(b:Nat):Prop:=∀i,u.getD i 0≤b
theorem VF{u:List Nat}{b:Nat}(h:BdN u b)(i:Nat):BdN (Ja u i) (b+1):=fun j=>by
 unfold Ja;by_cases e:i=j
 ·subst e;by_cases hi:i<u.length
  ·rw[qJ hi];have:=h i;omega
  ·rw[List.set_eq_of_length_le (by omega)];have:=h i;omega
 ·rw[jE e];have:=h j;omega
theorem zlm{u:List Nat}{b:Nat}(h:BdN u b)(d:Node):BdN (JI u d) (b+2):=by
 unfold JI;split
 ·split
  ·exact VF (VF h _) _
  ·exact fun j=>by have:=VF h d.Left.toNat j;omega
 ·exact fun j=>by have:=h j;omega
def zkn:List Nat→Bool
 |a::b::r=>decide (a=1)&&zkn (b::r)
 |_=>true
theorem zeQ{u:List Nat}{t:Nat}(h:t+1<u.length):zkn (u.drop t)=(decide (u.getD t 0=1)&&zkn (u.drop (t+1))):=by
 have e:∀{i:Nat},i<u.length→u.drop i=u.getD i 0::u.drop (i+1):=fun{i} hi=>by rw[List.drop_eq_getElem_cons hi,List.getD_eq_getElem?_getD,List.getElem?_eq_getElem hi];rfl
 rw[e (show t<u.length by omega),e h];rfl
theorem ziy{u:List Nat}{t:Nat}(h:u.length≤t+1):zkn (u.drop t)=true:=by
 have hl:(u.drop t).length≤1:=by rw[List.length_drop];omega
 rcases hd:u.drop t with _|⟨a,_|⟨b,r⟩⟩
 ·rfl
 ·rfl
 ·rw[hd,List.length_cons,List.length_cons]at hl;omega
def zdI(m:Nat):Nat→List Nat→List Node→Bool
 |_,u,[]=>zkn u
 |i,u,d::r=>cond (qj m i d) (zdI m (i+1) (JI u d) r) false
theorem zwd{N:Nat}{n:Nat}(hn:n≤1000){u:List Nat}(hu:u.length=n+1):∀(k j:Nat),j≤n→n-j<k→Zy N k 0 (n:Int) (n:Int) (j:Int) (uN u)=some (cond (zkn (u.drop j)) 0 1)
 |0,_,_,h=>by omega
 |k+1,j,hj,hk=>by
  show JO N (Zy N k) 0 (n:Int) (n:Int) (j:Int) _=_;unfold JO;by_cases h:j<n
  ·rw[decide_eq_true (show(j:Int)<(n:Int)by omega),cond_true,decide_eq_true (show(0:Int)≤(j:Int)by omega),Bool.true_and,za,show(0:Int)+(j:Int)=(j:Int)by omega,z7 (by rw[yh];omega),za,Jf,zeQ (by omega)];by_cases h1:u.getD j 0=1
   ·rw[decide_eq_true (show((u.getD j 0:Nat):Int)=1 by omega),Bool.not_true,cond_false,zN (by omega) (by omega),za,decide_eq_true h1,Bool.true_and];exact zwd hn hu k (j+1) (by omega) (by omega)
   ·rw[decide_eq_false (show¬((u.getD j 0:Nat):Int)=1 by omega),Bool.not_false,cond_true,decide_eq_false h1,Bool.false_and];rfl
  ·rw[decide_eq_false (by omega),cond_false,ziy (by omega)];rfl
theorem zwe{N:Nat}(hN:20000<N){ns:List Node}{ls:List AV}(hn:ns.length≤30)(h0:ns≠[]):∀(k i b:Nat)(u:List Nat),i≤ns.length→ns.length-i<k→u.length=ns.length→BdN u b→b+2*(ns.length-i)≤1000→
  yP N k (ns.map zG) (ns.length:Int) (i:Int) ⟨ns.map zG,ls⟩ (uN u)=some (cond (zdI ls.length i u (ns.drop i)) 0 1)
 |0,_,_,_,_,h,_,_,_=>by omega
 |k+1,i,b,u,hi,hk,hu,hb,hB=>by
  have hp:0<ns.length:=List.length_pos_iff.2 h0;show JP N (yP N k) (ns.map zG) (ns.length:Int) (i:Int) ⟨ns.map zG,ls⟩ (uN u)=_;unfold JP;by_cases h:i<ns.length
  ·have hd:ns[i]? =some ns[i]:=List.getElem?_eq_getElem h;have e1:ns.drop i=ns[i]::ns.drop (i+1):=List.drop_eq_getElem_cons h;rw[e1];generalize ns[i]=d at hd e1⊢;have next:=zwe hN (ls:=ls) hn h0 k (i+1) (b+2) (JI u d) (by omega) (by omega) (by rw[zh0];exact hu) (zlm hb d) (by omega)
   rw[decide_eq_true (show(i:Int)<(ns.length:Int)by omega),cond_true];simp only[Zl zG hd,ixM zG h,nv0,nv1,nv2,nv3,k8,k64,iO,Bool.and_true,za,zm5 N hd,zl];unfold zdI;cases hv:qj ls.length i d with
   |false=>rfl
   |true=>
    rw[Bool.not_true,cond_false,cond_true,←next];have i1:(i:Int)+1=((i+1:Nat):Int):=rfl;have j1:inKb .i64 ((i+1:Nat):Int)=true:=zN (by omega) (by omega);rcases validB_of hv with⟨h1,h2,h3,h4⟩|⟨h1,h2,h3,h4⟩|⟨h1,h2,h3,h4,h5,h6⟩
    ·have eu:JI u d=u:=by unfold JI;rw[if_neg (by omega)]
     rw[eu,decide_eq_false (show¬1<d.Op by omega),cond_false];unfold sCheckE_k1;dsimp only;rw[decide_eq_false (show¬1<d.Op by omega),cond_false];unfold ql;rw[cond_false,i1,j1,za]
    ·obtain⟨l,hl⟩:=Int.eq_ofNat_of_zero_le h2;have eu:JI u d=Ja u l:=by unfold JI;rw[if_pos (by omega),if_neg (by omega),hl,Int.toNat_natCast]
     have v1:=hb l;rw[eu,decide_eq_true (show 1<d.Op by omega),cond_true,hl,z7 (show l<(uN u).length by rw[yh];omega),za,za,Jf,show((u.getD l 0:Nat):Int)+1=((u.getD l 0+1:Nat):Int)from rfl,zN (by omega) (by omega),za,za,za,Int.toNat_natCast,JM];unfold sCheckE_k1;dsimp only;rw[decide_eq_true (show 1<d.Op by omega),cond_true,decide_eq_false (show¬d.Op<7 by omega)];unfold ql;rw[cond_false,i1,j1,za];rfl
    ·obtain⟨l,hl⟩:=Int.eq_ofNat_of_zero_le h3;obtain⟨r,hr⟩:=Int.eq_ofNat_of_zero_le h5;have eu:JI u d=Ja (Ja u l) r:=by unfold JI;rw[if_pos (by omega),if_pos (by omega),hl,hr,Int.toNat_natCast,Int.toNat_natCast]
     have v1:=hb l;have v2:=VF hb l r;rw[eu,decide_eq_true (show 1<d.Op by omega),cond_true,hl,z7 (show l<(uN u).length by rw[yh];omega),za,za,Jf,show((u.getD l 0:Nat):Int)+1=((u.getD l 0+1:Nat):Int)from rfl,zN (by omega) (by omega),za,za,za,Int.toNat_natCast,JM];unfold sCheckE_k1;dsimp only;rw[decide_eq_true (show 1<d.Op by omega),cond_true,decide_eq_true (show d.Op<7 by omega)];unfold ql;dsimp only;have e2:u.set l (u.getD l 0+1)=Ja u l:=rfl;rw[cond_true,e2,hr,z7 (show r<(uN (Ja u l)).length by rw[yh,zdk];omega),za,za,Jf,show(((Ja u l).getD r 0:Nat):Int)+1=(((Ja u l).getD r 0+1:Nat):Int)from rfl,zN (by omega) (by omega),za,za,za,Int.toNat_natCast,JM,i1,j1,za];rfl
  ·have e:i=ns.length:=by omega
   have l1:((uN u).length:Int)-1=((ns.length-1:Nat):Int):=by rw[yh,hu];omega
   rw[decide_eq_false (by omega),cond_false,l1,zN (by omega) (by omega),za,show zO 0 ((ns.length-1:Nat):Int) (uN u).length=true from zS.2 ⟨by omega,by omega,by rw[yh];omega⟩,za,show((ns.length-1:Nat):Int)-0=((ns.length-1:Nat):Int)by omega];have:=zwd (N:=N) (n:=ns.length-1) (by omega) (u:=u) (by omega) N 0 (Nat.zero_le _) (by omega);rw[List.drop_zero]at this;rw[e,List.drop_length];exact this
def jQ(ns:List Node)(m:Nat):Bool:=cond (decide (0<ns.length)) (zdI m 0 (List.replicate ns.length 0) ns) false
theorem mkn{n:Nat}(h:n≤1000)(b:Nat)(hb:b≤100):mkOk b (n:Int)=true:=by show(Nat.ble (b*n) 281474976710656&&Nat.ble n 9223372036854775807)=true;have:b*n≤100*1000:=Nat.mul_le_mul hb h;rw[Nat.ble_eq_true_of_le (by omega),Nat.ble_eq_true_of_le (by omega)];rfl
theorem zr2(n:Nat):BdN (List.replicate n 0) 0:=fun i=>by rw[List.getD_eq_getElem?_getD,List.getElem?_replicate];split<;>exact Nat.le_refl _
theorem QG{N:Nat}(hN:20000<N){ns:List Node}{ls:List AV}(hn:ns.length≤30):JQ N ⟨ns.map zG,ls⟩=some (cond (jQ ns ls.length) 0 1):=by
 unfold JQ jQ;dsimp only;rw[List.length_map,decide_eq_false (show¬65536<(ns.length:Int)by omega),cond_false];by_cases h0:ns=[]
 ·subst h0;rfl
 ·have hp:0<ns.length:=List.length_pos_iff.2 h0;rw[decide_eq_false (show¬(ns.length:Int)=0 by omega),cond_false,decide_eq_true hp,cond_true,mkn (by omega) 8 (by omega),decide_eq_true rfl,Bool.and_self,za,Int.toNat_natCast,zjH];have:=zwe hN (ls:=ls) hn h0 N 0 0 (List.replicate ns.length 0) (Nat.zero_le _) (by omega) (by rw[List.length_replicate]) (zr2 _) (by omega);rw[List.drop_zero]at this;exact this
theorem zif{N:Nat}(hN:20000<N){ns:List Node}{ls:List AV}(hn:ns.length≤30)(hg:jQ ns ls.length=false):zcF N ⟨ns.map zG,ls⟩=some []:=by unfold zcF;dsimp only;rw[List.length_map,decide_eq_false (show¬1000<(ns.length:Int)by omega),cond_false,QG hN hn,zl,hg];rfl
end Go.Proofs.C06
end
section
set_option maxRecDepth 100000
namespace Go.Proofs.C06
open Go Go.RowKit Go.Vc Go.Am Go.Dg
def fZ:Field:=Field.mk 4 0 [57] 1 0 false false false false false 1 [48]
def dZ:Decimal:=Decimal.mk false [48] 0
theorem zyc{f:Field}(h:f=fZ):zwC 30000 f=some (dZ,0):=by subst h;kernel_rfl
theorem evS{o:Option (Decimal×Int)}(ho:Yz o){c1 c2:Bool}(h1:c1=true)(h2:c2=true){g:List AV→Option (Decimal×Int)}{b:List AV}{t:Int}(hg:∀r:Decimal,r.Digits.length≤1000→Yz (g (b.set t.toNat (decV r)))):
  Yz (bnd o fun rr=>chk c1<|chk c1<|cond (!decide (rr.2=0)) (some ((Decimal.mk false [] 0),rr.2)) (chk c2<|g (b.set t.toNat (.agg [.bool rr.1.Neg,.str rr.1.Digits,.int .i64 rr.1.Scale])))):=by
 obtain⟨r,e,h,he,hl⟩:=ho;rw[h,zl,h1,h2];dsimp only;rw[za,za,za];by_cases h0:e=0
 ·rw[decide_eq_true h0,Bool.not_true,cond_false];exact hg r hl
 ·rw[decide_eq_false h0,Bool.not_false,cond_true];exact⟨_,e,rfl,he,Nat.zero_le _⟩
theorem zxM{c l:Nat}(h:l<c):atV (List.replicate c fvA) (l:Int)=fvA:=by unfold atV;rw[Int.toNat_natCast,List.getD_eq_getElem?_getD,List.getElem?_replicate,if_pos h];rfl
theorem zxL{c l:Nat}(h:l<c):inIx (l:Int) (List.replicate c fvA).length=true:=z7 (by rw[List.length_replicate];exact h)
theorem zwl{c:Nat}{ns:List Node}(hv:∀(i:Nat)(d:Node),ns[i]? =some d→qj c i d=true)(hn:ns.length≤30)(h0:ns≠[]):∀(k i:Nat)(vs:List Decimal),vs.length=ns.length→i≤ns.length→ns.length-i<k→(∀v∈vs,v.Digits.length≤1000)→
  Yz (yj 30000 k (List.replicate c fvA) (ns.map zG) (ns.length:Int) (i:Int) (Decimal.mk false [] 0) (vs.map decV))
 |0,_,_,_,_,h,_=>by omega
 |k+1,i,vs,hl,hi,hk,hb=>by
  have hp:0<ns.length:=List.length_pos_iff.2 h0;show Yz (XA 30000 (yj 30000 k) (List.replicate c fvA) (ns.map zG) (ns.length:Int) (i:Int) (Decimal.mk false [] 0) (vs.map decV));unfold XA;by_cases h:i<ns.length
  ·have hd:ns[i]? =some ns[i]:=List.getElem?_eq_getElem h;generalize ns[i]=d at hd;have hg:∀r:Decimal,r.Digits.length≤1000→Yz (yj 30000 k (List.replicate c fvA) (ns.map zG) (ns.length:Int) ((i:Int)+1) (Decimal.mk false [] 0) ((vs.map decV).set ((i:Int)).toNat (decV r))):=fun r hr=>by have:=zwl hv hn h0 k (i+1) (vs.set i r) (by rw[List.length_set];exact hl) (by omega) (by omega) (fun v hvm=>(List.mem_or_eq_of_mem_set hvm).elim (hb v) (fun e=>by rw[e];exact hr));rw[List.map_set]at this;exact this
   have c1:inIx (i:Int) (vs.map decV).length=true:=ixM decV (by omega);have c2:inKb .i64 ((i:Int)+1)=true:=zN (by omega) (by omega);have val:∀{l:Nat},l<i→∃a:Decimal,vs[l]? =some a∧a.Digits.length≤1000∧inIx (l:Int) (vs.map decV).length=true:=fun{l} hl'=>by
    have hh:l<vs.length:=by omega
    exact⟨vs[l],List.getElem?_eq_getElem hh,hb _ (List.getElem_mem hh),ixM decV hh⟩
   rw[decide_eq_true (show(i:Int)<(ns.length:Int)by omega),cond_true];simp only[Zl zG hd,ixM zG h,nv0,nv1,nv2,nv3,k8,k64,iO,Bool.and_true,za];rcases validB_of (hv i d hd)with⟨h1,h2,h3,h4⟩|⟨h1,h2,h3,h4⟩|⟨h1,h2,h3,h4,h5,h6⟩
   ·obtain⟨l,hl'⟩:=Int.eq_ofNat_of_zero_le h2;have hlc:l<c:=by omega
    rw[decide_eq_true h1,cond_true,hl',zxM hlc,zxL hlc,Bool.true_and,zvP (by rfl),zyc (by rfl),zl];exact evS (o:=some (dZ,0)) ⟨dZ,0,rfl,by decide,by decide⟩ c1 c2 (g:=fun b=>yj 30000 k (List.replicate c fvA) (ns.map zG) (ns.length:Int) ((i:Int)+1) (Decimal.mk false [] 0) b) (t:=(i:Int)) hg
   ·obtain⟨l,hl'⟩:=Int.eq_ofNat_of_zero_le h2;obtain⟨a,a1,a2,a3⟩:=val (l:=l) (by omega);rw[decide_eq_false (show¬d.Op=1 by omega),cond_false,decide_eq_true h1,cond_true,hl',a3,za];simp only[Zl decV a1,dv0,dv1,dv2,dv3,kB,kS_,k64,bO,sO,iO,Bool.and_true,za];exact evS (znG (N:=30000) (by decide) a2) c1 c2 (g:=fun b=>yj 30000 k (List.replicate c fvA) (ns.map zG) (ns.length:Int) ((i:Int)+1) (Decimal.mk false [] 0) b) (t:=(i:Int)) hg
   ·obtain⟨l,hl'⟩:=Int.eq_ofNat_of_zero_le h3;obtain⟨r,hr'⟩:=Int.eq_ofNat_of_zero_le h5;obtain⟨a,a1,a2,a3⟩:=val (l:=l) (by omega);obtain⟨b,b1,b2,b3⟩:=val (l:=r) (by omega);rw[decide_eq_false (show¬d.Op=1 by omega),cond_false,decide_eq_false (show¬d.Op=7 by omega),cond_false,hl',hr'];simp only[a3,b3,Zl decV a1,Zl decV b1,dv0,dv1,dv2,dv3,kB,kS_,k64,bO,sO,iO,Bool.and_true,za];have go:∀{o:Option (Decimal×Int)},Yz o→Yz (bnd o fun rr=>chk (inIx (i:Int) (vs.map decV).length)<|chk (inIx (i:Int) (vs.map decV).length)<|cond (!decide (rr.2=0)) (some ((Decimal.mk false [] 0),rr.2)) (chk (inKb .i64 ((i:Int)+1))<|
      yj 30000 k (List.replicate c fvA) (ns.map zG) (ns.length:Int) ((i:Int)+1) (Decimal.mk false [] 0) ((vs.map decV).set ((i:Int)).toNat (.agg [.bool rr.1.Neg,.str rr.1.Digits,.int .i64 rr.1.Scale])))):=fun ho=>
     evS ho c1 c2 (g:=fun b=>yj 30000 k (List.replicate c fvA) (ns.map zG) (ns.length:Int) ((i:Int)+1) (Decimal.mk false [] 0) b) (t:=(i:Int)) hg
    by_cases o2:d.Op=2
    ·rw[decide_eq_true o2,cond_true];exact go (zfd (N:=30000) (by decide) a2 b2)
    rw[decide_eq_false o2,cond_false];by_cases o3:d.Op=3
    ·rw[decide_eq_true o3,cond_true];exact go (znD (N:=30000) (by decide) a2 b2)
    rw[decide_eq_false o3,cond_false];by_cases o4:d.Op=4
    ·rw[decide_eq_true o4,cond_true];exact go (znH (N:=30000) (by decide) a2 b2)
    rw[decide_eq_false o4,cond_false];by_cases o5:d.Op=5
    ·rw[decide_eq_true o5,cond_true];exact go (znI (N:=30000) (by decide) a2 b2)
    rw[decide_eq_false o5,cond_false,decide_eq_true (show d.Op=6 by omega),cond_true];exact go (znE (N:=30000) (by decide) a2 b2)
  ·have e:i=ns.length:=by omega
   have l1:((vs.map decV).length:Int)-1=((ns.length-1:Nat):Int):=by rw[List.length_map,hl];omega
   have hh:ns.length-1<vs.length:=by omega
   have a1:vs[ns.length-1]? =some vs[ns.length-1]:=List.getElem?_eq_getElem hh;have a2:=hb _ (List.getElem_mem hh);generalize vs[ns.length-1]=a at a1 a2;rw[decide_eq_false (show¬(i:Int)<(ns.length:Int)by omega),cond_false,l1,zN (by omega) (by omega),za];simp only[ixM decV hh,Zl decV a1,dv0,dv1,dv2,dv3,kB,kS_,k64,bO,sO,iO,Bool.and_true,za];exact⟨a,0,rfl,by decide,a2⟩
theorem zdH{m:Nat}:∀{l:List Node}{i:Nat}{u:List Nat},zdI m i u l=true→∀(j:Nat)(d:Node),l[j]? =some d→qj m (i+j) d=true
 |[],_,_,_,j,d,h=>by simp at h
 |x::r,i,u,hc,j,d,h=>by
  unfold zdI at hc;cases hx:qj m i x with
  |false=>rw[hx]at hc;cases hc
  |true=>
   rw[hx,cond_true]at hc;cases j with
   |zero=>simp at h;subst h;exact hx
   |succ j=>have:=zdH hc j d (by simpa using h);rw[show i+(j+1)=i+1+j by omega];exact this
theorem zmA{ns:List Node}{ls:List AV}(hn:ns.length≤30)(c:Nat):∃d e,zeG 30000 ⟨ns.map zG,ls⟩ (List.replicate c fvA)=some (d,e)∧(jQ ns ls.length=false→d=Decimal.mk false [] 0∧e=1)∧(jQ ns ls.length=true→(e=5↔c≠ls.length)):=by
 unfold zeG;dsimp only;rw[QG (by decide) hn,zl];cases hg:jQ ns ls.length with
 |false=>exact⟨_,1,rfl,fun _=>⟨rfl,rfl⟩,fun h=>by cases h⟩
 |true=>
  rw[cond_true,decide_eq_true rfl,Bool.not_true,cond_false,List.length_replicate];by_cases hc:c=ls.length
  ·have hp:0<ns.length:=by
    unfold jQ at hg;by_cases hp:0<ns.length
    ·exact hp
    ·rw[decide_eq_false hp]at hg;cases hg
   have hz:zdI ls.length 0 (List.replicate ns.length 0) ns=true:=by unfold jQ at hg;rw[decide_eq_true hp]at hg;exact hg
   have hv:∀(i:Nat)(d:Node),ns[i]? =some d→qj c i d=true:=fun i d h=>by have:=zdH hz i d h;rw[Nat.zero_add,←hc]at this;exact this
   obtain⟨d,e,h1,h2,h3⟩:=zwl hv hn (List.length_pos_iff.1 hp) 30000 0 (List.replicate ns.length (Decimal.mk false [] 0)) (by rw[List.length_replicate]) (Nat.zero_le _) (by omega) (fun v hvm=>by rw[(List.mem_replicate.1 hvm).2];exact Nat.zero_le _);rw[List.map_replicate]at h1;have h1':yj 30000 30000 (List.replicate c fvA) (ns.map zG) (ns.length:Int) 0 (Decimal.mk false [] 0) (List.replicate ns.length (.agg [.bool false,.str [],.int .i64 0]))=some (d,e):=h1;refine⟨d,e,?_,fun h=>(by cases h),fun _=>⟨fun h=>absurd h h2,fun h=>absurd hc h⟩⟩;unfold zwQ;rw[decide_eq_true (show(c:Int)=(ls.length:Int)by omega),Bool.not_true,cond_false,zl,List.length_map,mkn (by omega) 32 (by omega),decide_eq_true rfl,Bool.and_self,za,Int.toNat_natCast,h1']
  ·rw[decide_eq_false (show¬(c:Int)=(ls.length:Int)by omega),Bool.not_false,cond_true];exact⟨_,5,rfl,fun h=>(by cases h),fun _=>⟨fun _=>hc,fun _=>rfl⟩⟩
theorem zxI{ns:List Node}{ls:List AV}(hn:ns.length≤30):qH 30000 (jQ ns ls.length) (cond (jQ ns ls.length) 0 1) ⟨ns.map zG,ls⟩=some true:=by
 obtain⟨d,e,h1,h2,h3⟩:=zmA (ls:=ls) hn 0;have h1':zeG 30000 ⟨ns.map zG,ls⟩ []=some (d,e):=h1;unfold qH;rw[h1',zl,QG (by decide) hn,zl];dsimp only;cases hg:jQ ns ls.length with
 |false=>obtain⟨rfl,rfl⟩:=h2 hg;rw[cond_false,decide_eq_true rfl,Bool.not_true,cond_false,Bool.not_false,cond_true,zif (by decide) hn hg,zl];rfl
 |true=>
  have h5:=h3 hg;rw[cond_true,decide_eq_true rfl,Bool.not_true,cond_false,cond_false];unfold qG;dsimp only;rw[Bool.not_true,cond_false];by_cases h0:ls.length=0
  ·rw[decide_eq_false (show¬e=5 from fun h=>h5.1 h h0.symm),decide_eq_true (show(0:Int)=(ls.length:Int)by omega)];rfl
  ·rw[decide_eq_true (h5.2 fun h=>h0 h.symm),decide_eq_false (show¬(0:Int)=(ls.length:Int)by omega)];rfl
theorem zw8{ns:List Node}{ls:List AV}(hn:ns.length≤30)(c:Nat):yN 30000 (jQ ns ls.length) (cond (jQ ns ls.length) 0 1) ⟨ns.map zG,ls⟩ (List.replicate c fvA)=some true:=by
 obtain⟨d,e,h1,h2,h3⟩:=zmA (ls:=ls) hn c;unfold yN;rw[h1,zl,QG (by decide) hn,zl];dsimp only;cases hg:jQ ns ls.length with
 |false=>obtain⟨rfl,rfl⟩:=h2 hg;rw[cond_false,decide_eq_true rfl,Bool.not_true,cond_false,Bool.not_false,cond_true,zif (by decide) hn hg,zl];rfl
 |true=>
  have h5:=h3 hg;rw[cond_true,decide_eq_true rfl,Bool.not_true,cond_false,cond_false];unfold yM;dsimp only;rw[Bool.not_true,cond_false,List.length_replicate];by_cases h0:c=ls.length
  ·rw[decide_eq_false (show¬e=5 from fun h=>h5.1 h h0),decide_eq_true (show(c:Int)=(ls.length:Int)by omega)];rfl
  ·rw[decide_eq_true (h5.2 h0),decide_eq_false (show¬(c:Int)=(ls.length:Int)by omega)];rfl
def stF(many:Int)(g:Bool)(want:Int)(x:Expr):Nat→(Int×Bool×Int×Int×Expr)⊕(Int×Bool×Int×Int×Expr×List AV)
 |0=>.inl (many,g,want,0,x)
 |i+1=>.inr (many,g,want,((i+1:Nat):Int),x,List.replicate (i+1) fvA)
theorem zrt{n:Nat}(h:n≤100):jJ 80 n=true:=by unfold jJ;simp only[Bool.and_eq_true,Nat.ble_eq];omega
theorem zwc{ns:List Node}{ls:List AV}(hn:ns.length≤30){m:Nat}(hm:m<256):∀(k i:Nat),i≤m%20→m%20-i<k→
  jr 30000 k (stF (m:Int) (jQ ns ls.length) (cond (jQ ns ls.length) 0 1) ⟨ns.map zG,ls⟩ i)=some true
 |0,_,_,h=>by omega
 |k+1,i,hi,hk=>by
  have e:(m:Int)%20=((m%20:Nat):Int):=rfl;have c2:inKb .i64 ((m%20:Nat):Int)=true:=zN (by omega) (by omega);have next:=fun h=>zwc (ls:=ls) hn hm k (i+1) h (by omega)
  cases i with
  |zero=>
   show qu 30000 (jr 30000 k) (m:Int) (jQ ns ls.length) (cond (jQ ns ls.length) 0 1) 0 ⟨ns.map zG,ls⟩=_;unfold qu;rw[zvP (by rfl),e,c2,za];by_cases h:0<m%20
   ·rw[decide_eq_true (show(0:Int)<((m%20:Nat):Int)by omega),cond_true,zrt (by simp),za,show inKb .i64 ((0:Int)+1)=true from rfl,za];exact next (by omega)
   ·rw[decide_eq_false (show¬(0:Int)<((m%20:Nat):Int)by omega),cond_false];exact zxI hn
  |succ i=>
   show qt 30000 (jr 30000 k) (m:Int) (jQ ns ls.length) (cond (jQ ns ls.length) 0 1) ((i+1:Nat):Int) ⟨ns.map zG,ls⟩ (List.replicate (i+1) fvA)=_;unfold qt;rw[zvP (by rfl),e,c2,za];by_cases h:i+1<m%20
   ·have hr:List.replicate (i+1) fvA++[fvA]=List.replicate (i+1+1) fvA:=by rw[←List.replicate_succ']
    have nx:jr 30000 k (.inr ((m:Int),jQ ns ls.length,cond (jQ ns ls.length) 0 1,((i+1+1:Nat):Int),⟨ns.map zG,ls⟩,List.replicate (i+1+1) fvA))=some true:=next (by omega)
    rw[←hr]at nx;rw[decide_eq_true (show((i+1:Nat):Int)<((m%20:Nat):Int)by omega),cond_true,zrt (by rw[List.length_append,List.length_replicate];simp;omega),za,show((i+1:Nat):Int)+1=((i+1+1:Nat):Int)from rfl,zN (by omega) (by omega),za];exact nx
   ·rw[decide_eq_false (show¬((i+1:Nat):Int)<((m%20:Nat):Int)by omega),cond_false];exact zw8 hn (i+1)
def kG(m:Int)(x:Expr)(g:Bool):Option Bool:=yJ 30000 m g (cond g 0 1) x
theorem zhf{x:Expr}{m:Int}{u:List Nat}(hu:u.length≤30):∀(k t:Nat)(g:Bool),t≤u.length→u.length-t<k→yH 30000 k m g (t:Int) x (uN u)=kG m x (g&&zkn (u.drop t))
 |0,_,_,_,h=>by omega
 |k+1,t,g,ht,hk=>by
  show q6 30000 (yH 30000 k) m g (t:Int) x (uN u)=_;unfold q6;have i1:(t:Int)+1=((t+1:Nat):Int):=rfl;have c1:inKb .i64 ((t+1:Nat):Int)=true:=zN (by omega) (by omega);rw[i1,c1,za,yh];by_cases h:t+1<u.length
  ·rw[decide_eq_true (show((t+1:Nat):Int)<(u.length:Int)by omega),cond_true,zeQ h];cases g with
   |true=>
    have next:=zhf (x:=x) (m:=m) hu k (t+1) (decide (((u.getD t 0:Nat):Int)=1)) (by omega) (by omega)
    have e:decide (((u.getD t 0:Nat):Int)=1)=decide (u.getD t 0=1):=decide_eq_decide.2 (by omega);rw[cond_true,z7 (show t<u.length by omega),za,za,za,Jf,next,e,Bool.true_and]
   |false=>
    have next:=zhf (x:=x) (m:=m) hu k (t+1) false (by omega) (by omega)
    rw[cond_false,za,next,Bool.false_and,Bool.false_and]
  ·rw[decide_eq_false (show¬((t+1:Nat):Int)<(u.length:Int)by omega),cond_false,ziy (by omega),Bool.and_true];cases g<;>rfl
theorem zxF{ns:List Node}{ls:List AV}{m:Int}{u:List Nat}(hu:u.length≤30)(k:Nat)(i:Int):zM 30000 (k+1) m false i ⟨ns.map zG,ls⟩ (uN u)=kG m ⟨ns.map zG,ls⟩ false:=by show j3 30000 (zM 30000 k) m false i ⟨ns.map zG,ls⟩ (uN u)=_;have h2:=zhf (x:=⟨ns.map zG,ls⟩) (m:=m) hu 30000 0 false (Nat.zero_le _) (by omega);rw[Bool.false_and]at h2;have h2':qI 30000 m false ⟨ns.map zG,ls⟩ (uN u)=_:=h2;unfold j3;rw[cond_false,h2'];cases decide (i<((⟨ns.map zG,ls⟩:Expr).Nodes.length:Int))<;>rfl
theorem zri{ns:List Node}{ls:List AV}{m:Int}(hn:ns.length≤30):∀(k i b:Nat)(u:List Nat),i≤ns.length→ns.length-i<k→u.length=ns.length→BdN u b→b+2*(ns.length-i)≤1000→
  zM 30000 k m true (i:Int) ⟨ns.map zG,ls⟩ (uN u)=kG m ⟨ns.map zG,ls⟩ (zdI ls.length i u (ns.drop i))
 |0,_,_,_,_,h,_,_,_=>by omega
 |k+1,i,b,u,hi,hk,hu,hb,hB=>by
  show j3 30000 (zM 30000 k) m true (i:Int) ⟨ns.map zG,ls⟩ (uN u)=_;unfold j3;dsimp only;rw[List.length_map];by_cases h:i<ns.length
  ·have hd:ns[i]? =some ns[i]:=List.getElem?_eq_getElem h;have e1:ns.drop i=ns[i]::ns.drop (i+1):=List.drop_eq_getElem_cons h;rw[e1];generalize ns[i]=d at hd e1⊢;have next:=zri (ls:=ls) (m:=m) hn k (i+1) (b+2) (JI u d) (by omega) (by omega) (by rw[zh0];exact hu) (zlm hb d) (by omega)
   have i1:(i:Int)+1=((i+1:Nat):Int):=rfl;have j1:inKb .i64 ((i+1:Nat):Int)=true:=zN (by omega) (by omega);have hk8:zC 30000 (zM 30000 k) m (qj ls.length i d) (i:Int) true ⟨ns.map zG,ls⟩ (uN u) d=kG m ⟨ns.map zG,ls⟩ (zdI ls.length i u (d::ns.drop (i+1))):=by
    unfold zdI zC;cases hv:qj ls.length i d with
    |false=>
     obtain⟨k',rfl⟩:∃k',k=k'+1:=⟨k-1,by omega⟩
     rw[cond_false,cond_false];unfold ym;rw[cond_false];unfold lawCheck17_k9;rw[cond_false];unfold jm;rw[cond_false,i1,j1,za];exact zxF (by omega) k' _
    |true=>
     rw[cond_true,cond_true,←next];unfold ym;rcases validB_of hv with⟨h1,h2,h3,h4⟩|⟨h1,h2,h3,h4⟩|⟨h1,h2,h3,h4,h5,h6⟩
     ·have eu:JI u d=u:=by unfold JI;rw[if_neg (by omega)]
      rw[eu,decide_eq_false (show¬1<d.Op by omega),cond_false];unfold lawCheck17_k9;rw[cond_true,decide_eq_false (show¬1<d.Op by omega),cond_false];unfold jm;rw[cond_false,i1,j1,za]
     ·obtain⟨l,hl⟩:=Int.eq_ofNat_of_zero_le h2;have eu:JI u d=Ja u l:=by unfold JI;rw[if_pos (by omega),if_neg (by omega),hl,Int.toNat_natCast]
      have v1:=hb l;rw[eu,decide_eq_true (show 1<d.Op by omega),cond_true,hl,z7 (show l<(uN u).length by rw[yh];omega),za,za,Jf,show((u.getD l 0:Nat):Int)+1=((u.getD l 0+1:Nat):Int)from rfl,zN (by omega) (by omega),za,za,za,Int.toNat_natCast,JM];unfold lawCheck17_k9;rw[cond_true,decide_eq_true (show 1<d.Op by omega),cond_true,decide_eq_false (show¬d.Op<7 by omega)];unfold jm;rw[cond_false,i1,j1,za];rfl
     ·obtain⟨l,hl⟩:=Int.eq_ofNat_of_zero_le h3;obtain⟨r,hr⟩:=Int.eq_ofNat_of_zero_le h5;have eu:JI u d=Ja (Ja u l) r:=by unfold JI;rw[if_pos (by omega),if_pos (by omega),hl,hr,Int.toNat_natCast,Int.toNat_natCast]
      have v1:=hb l;have v2:=VF hb l r;have e2:u.set l (u.getD l 0+1)=Ja u l:=rfl;rw[eu,decide_eq_true (show 1<d.Op by omega),cond_true,hl,z7 (show l<(uN u).length by rw[yh];omega),za,za,Jf,show((u.getD l 0:Nat):Int)+1=((u.getD l 0+1:Nat):Int)from rfl,zN (by omega) (by omega),za,za,za,Int.toNat_natCast,JM];unfold lawCheck17_k9;rw[cond_true,decide_eq_true (show 1<d.Op by omega),cond_true,decide_eq_true (show d.Op<7 by omega)];unfold jm;rw[cond_true,e2,hr,z7 (show r<(uN (Ja u l)).length by rw[yh,zdk];omega),za,za,Jf,show(((Ja u l).getD r 0:Nat):Int)+1=(((Ja u l).getD r 0+1:Nat):Int)from rfl,zN (by omega) (by omega),za,za,za,Int.toNat_natCast,JM,i1,j1,za];rfl
   have hix:inIx (i:Int) ns.length=true:=z7 h;rw[←hk8,decide_eq_true (show(i:Int)<(ns.length:Int)by omega),cond_true,cond_true];simp only[Zl zG hd,hix,nv0,nv1,nv2,nv3,k8,k64,iO,Bool.and_true,za];unfold qj;cases decide (d.Op=1)
   ·cases decide (d.Op=7)
    ·cases decide (2≤d.Op)
     ·rfl
     ·cases decide (d.Op≤6)
      ·rfl
      ·cases decide (0≤d.Left)
       ·rfl
       ·cases decide (d.Left<(i:Int))
        ·rfl
        ·cases decide (0≤d.Right)<;>rfl
    ·cases decide (0≤d.Left)
     ·rfl
     ·cases decide (d.Left<(i:Int))<;>rfl
   ·cases decide (0≤d.Left)
    ·rfl
    ·cases decide (d.Left<(ls.length:Int))<;>rfl
  ·have h2:=zhf (x:=⟨ns.map zG,ls⟩) (m:=m) (u:=u) (by omega) 30000 0 true (Nat.zero_le _) (by omega);rw[Bool.true_and,List.drop_zero]at h2;rw[decide_eq_false (show¬(i:Int)<(ns.length:Int)by omega),cond_false,show ns.drop i=[]from List.drop_of_length_le (by omega)];exact h2
def lfA(l:List AV):AV:=.rov false 5 l
theorem zrj{ns:List Node}{lls:List (List AV)}{m:Nat}(hm:m<256)(hn:ns.length≤30)(hl:lls.length≤10):∀(k i:Nat),i≤lls.length→lls.length-i<k→yI 30000 k (m:Int) (i:Int) ⟨ns.map zG,lls.map lfA⟩=some true
 |0,_,_,h=>by omega
 |k+1,i,hi,hk=>by
  show q7 30000 (yI 30000 k) (m:Int) (i:Int) ⟨ns.map zG,lls.map lfA⟩=_;unfold q7;dsimp only;by_cases h:i<lls.length
  ·have hd:lls[i]? =some lls[i]:=List.getElem?_eq_getElem h;generalize lls[i]=d at hd;have i1:(i:Int)+1=((i+1:Nat):Int):=rfl;have j1:inKb .i64 ((i+1:Nat):Int)=true:=zN (by omega) (by omega);rw[decide_eq_true (show(i:Int)<((lls.map lfA).length:Int)by rw[List.length_map];omega),cond_true,ixM lfA h,Zl lfA hd,show zdi 5 (lfA d)=true from rfl,Bool.and_self,za,i1,j1,za,zrj hm hn hl k (i+1) (by omega) (by omega)];cases decide (20<((zqD (lfA d)).length:Int))<;>rfl
  ·rw[decide_eq_false (show¬(i:Int)<((lls.map lfA).length:Int)by rw[List.length_map];omega),cond_false,List.length_map,mkn (by omega) 8 (by omega),decide_eq_true rfl,Bool.and_self,za,Int.toNat_natCast,zjH];have hll:lls.length=(lls.map lfA).length:=(List.length_map ..).symm;have fin:kG (m:Int) ⟨ns.map zG,lls.map lfA⟩ (jQ ns (lls.map lfA).length)=some true:=by unfold kG yJ;exact zwc hn hm 30000 0 (Nat.zero_le _) (by omega)
   by_cases h0:0<ns.length
   ·have h7:=zri (ls:=lls.map lfA) (m:=(m:Int)) hn 30000 0 0 (List.replicate ns.length 0) (Nat.zero_le _) (by omega) (by rw[List.length_replicate]) (zr2 _) (by omega);rw[List.drop_zero]at h7;have hg:jQ ns (lls.map lfA).length=zdI (lls.map lfA).length 0 (List.replicate ns.length 0) ns:=by unfold jQ;rw[decide_eq_true h0,cond_true]
    rw[hg]at fin;rw[decide_eq_true (show(0:Int)<(ns.length:Int)by omega)];exact h7.trans fin
   ·have h7:=zxF (ns:=ns) (ls:=lls.map lfA) (m:=(m:Int)) (u:=List.replicate ns.length 0) (by rw[List.length_replicate];exact hn) 29999 0;have hg:jQ ns (lls.map lfA).length=false:=by unfold jQ;rw[decide_eq_false h0,cond_false]
    rw[hg]at fin;rw[decide_eq_false (show¬(0:Int)<(ns.length:Int)by omega)];exact h7.trans fin
theorem zaG(ns:List Node)(lls:List (List AV))(m:Nat)(hm:m<256):∃N,jX N ⟨ns.map zG,lls.map lfA⟩ (m:Int)=some true:=by
 refine⟨30000,?_⟩;unfold jX;dsimp only;rw[List.length_map,List.length_map];by_cases h1:30<ns.length
 ·rw[decide_eq_true (show(30:Int)<(ns.length:Int)by omega),cond_true]
 ·rw[decide_eq_false (show¬(30:Int)<(ns.length:Int)by omega),cond_false];by_cases h2:10<lls.length
  ·rw[decide_eq_true (show(10:Int)<(lls.length:Int)by omega),cond_true]
  ·rw[decide_eq_false (show¬(10:Int)<(lls.length:Int)by omega),cond_false];exact zrj hm (by omega) (by omega) 30000 0 (Nat.zero_le _) (by omega)
end Go.Proofs.C06
end
