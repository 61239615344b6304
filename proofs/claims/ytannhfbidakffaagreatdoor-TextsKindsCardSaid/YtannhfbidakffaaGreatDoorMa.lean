/-
  A part of the proof of the laws.
-/
import Derived.Test.YtannhfbidakffaaGreatDoorEc
import Derived.Test.YtannhfbidakffaaGreatDoorUd
import Derived.Test.YtannhfbidakffaaGreatDoorS6a
import Derived.Test.YtannhfbidakffaaGreatDoorUa
import Derived.Test.YtannhfbidakffaaGreatDoorEd
import Derived.Test.YtannhfbidakffaaGreatDoorEg
import Derived.Lib.ParseIntBCases
import Derived.Test.YtannhfbidakffaaGreatDoorCi
set_option maxRecDepth 100000
namespace Go.Proofs.C06
open Go Go.RowKit Go.Vc Go.Am Go.Dg
def cutK(d:Decimal)(s:Int):Nat:=((d.uB.toNat:Int)-s).toNat
def zas(d:Decimal)(s:Int):Decimal:=gD d.uI (val d.uA/10^cutK d s*10^cutK d s) d.uB.toNat
theorem zyJ{N:Nat}(hN:3000<N){d:Decimal}(H:VD d){s:Int}(h1: -62<=s)(h2:s<=62):∃t,zjw N d s=some (zas d s,t,0):=by
 obtain⟨x,e,e1,e2,Y⟩:=zgM hN H (s:=s) oM oM;have O:=H.form;obtain⟨g1,B,g3,g4,g5,_⟩:=H;refine⟨decide (val d.uA%10^(d.uB-s).toNat=0),?_⟩;rw[e1];by_cases h:d.uB<=s
 ·obtain⟨rfl,rfl⟩:=e2 h;unfold zas gD;rw[show cutK x s=0 by unfold cutK;omega,Nat.pow_zero,Nat.div_one,mX,O]
 ·obtain⟨m,S,I⟩:=Y oM;have ek:(d.uB-s).toNat=cutK d s:=by unfold cutK;omega
  rw[ek]at S;have hv:val (d.uA.take (d.uA.length-m)++List.replicate m 48)=val d.uA/10^cutK d s*10^cutK d s:=by
   rw[jM,(ju B oM).1];rcases Nat.lt_or_ge d.uA.length (cutK d s)with U|Z
   ·have j:m=d.uA.length:=oM
    rw[j,Nat.div_eq_of_lt (jv B),Nat.div_eq_of_lt (zj5 (mH _) B oM),Nat.zero_mul,Nat.zero_mul]
   ·have j:m=cutK d s:=oM
    rw[j]
  have J:(-d.uB).toNat=0:=oM
  have hn:nrm d.uI (d.uA.take (d.uA.length-m)++List.replicate m 48) d.uB=(zas d s,0):=by
   rw[zdN,hv,J,Nat.pow_zero,mX]
   ·rfl
   ·rw[hv,J,Nat.pow_zero,mX];refine qh dE (zj5 (Nat.div_mul_le_self _ _) B g3)
   ·exact nD (ji _ _ _) oM
  rw[hn]at I;cases I;rfl
theorem zBt(v S:Nat){s:Int}(B:S<=62)(j: -62<=s):v/10^((S:Int)-s).toNat*10^((S:Int)-s).toNat*10^(62+s).toNat=quo v S s*10^(62+S):=by
 unfold quo;by_cases h:s<=S
 ·rw[show(s-(S:Int)).toNat=0 by omega,Nat.pow_zero,mX,Nat.mul_assoc,<-Nat.pow_add,show((S:Int)-s).toNat+(62+s).toNat=62+S by omega]
 ·rw[show((S:Int)-s).toNat=0 by omega,Nat.pow_zero,Nat.div_one,mX,Nat.div_one,Nat.mul_assoc,<-Nat.pow_add,show(s-(S:Int)).toNat+(62+S)=(62+s).toNat by omega]
theorem zpD{d:Decimal}(Z:VD d){s:Int}(J: -62<=s)(h2:s<=62):VD (zas d s)/\exact (val (zas d s).uA) (zas d s).uB.toNat s/\quo (val (zas d s).uA) (zas d s).uB.toNat s=quo (val d.uA) d.uB.toNat s:=by
 obtain⟨g1,U,S,g4,g5,_⟩:=Z;have j:d.uB.toNat<=62:=oM
 have H:VD (zas d s):=VD.of (qh dE (zj5 (Nat.div_mul_le_self _ _) U S)) (nD (ji _ _ _) oM);have Y:=zmz d.uI (val d.uA/10^cutK d s*10^cutK d s) j;have B:(zas d s).uB.toNat<=62:=by have:=H.2.2.2.2.1;omega
 have key:val (zas d s).uA*10^(62+s).toNat=quo (val d.uA) d.uB.toNat s*10^(62+(zas d s).uB.toNat):=by
  refine Nat.eq_of_mul_eq_mul_right (pow_pos (62+(d.uB.toNat:Int)).toNat) ?_;have I:val (zas d s).uA*10^(62+(d.uB.toNat:Int)).toNat=val d.uA/10^cutK d s*10^cutK d s*10^(62+(zas d s).uB.toNat):=Y;have O:(62+(d.uB.toNat:Int)).toNat=62+d.uB.toNat:=oM
  rw[Nat.mul_right_comm,I,Nat.mul_right_comm,Nat.mul_right_comm (quo _ _ _),O];congr 1;exact zBt (val d.uA) d.uB.toNat j J
 exact⟨H,((Jk (n:=quo (val d.uA) d.uB.toNat s) B oM oM).2 ⟨_,Yw _,key⟩).1,zlx B oM oM key⟩
def grD(ng:Bool)(q:Nat)(sc:Int):Decimal:=jS (canon ng (q*10^(-sc).toNat) sc.toNat)
theorem zwR{N:Nat}(hN:3000<N){d:Decimal}(j:VD d){n:Nat}{sc:Int}(Z:1<=n)(O:n<=18)(I: -18<=sc)(hs:sc<=18)(he:exact (val d.uA) d.uB.toNat sc):
  zlw N d (n:Int) sc=some (grD d.uI (quo (val d.uA) d.uB.toNat sc%10^n) sc,0):=by
 obtain⟨t,e1,U,e3,Y,e5⟩:=(WM hN j (n:=n) (s:=sc) oM oM oM).1 he;have hl:d.uA.length<=1000:=by have:=j.2.2.1;omega
 unfold zlw;rw[WH hN hl Z oM oM oM,if_pos j,zc,zj,if_pos rfl,e1,zc];dsimp only;have B:zk ((t.length:Int)-(n:Int)) (t.length:Int) t.length=true:=by unfold zk;simp<;>omega
 have hv:val (t.drop (t.length-n))=quo (val d.uA) d.uB.toNat sc%10^n:=by rw[(ju U Y).2,e3]
 have hlt:quo (val d.uA) d.uB.toNat sc%10^n<10^n:=Nat.mod_lt _ (pow_pos n);have H:t.drop (t.length-n)≠[]:=by intro h;have:=congrArg List.length h;rw[mP,uAO]at this;omega
 have h10:(10:Nat)^n<=10^18:=Nat.pow_le_pow_right dE O;have J:=zcI (ng:=d.uI) (q:=quo (val d.uA) d.uB.toNat sc%10^n) (sc:=sc) oM I hs;obtain⟨_,_,S,_,v5,_⟩:=J;have S:(canon d.uI (quo (val d.uA) d.uB.toNat sc%10^n*10^(-sc).toNat) sc.toNat).2.1.length<=62:=S;rw[uAf,cond_false,zh oM oM,za,B,za,Xt _ Y,zgL hN _ (U.drop _) H (by rw[mP];omega) oM oM,zc,zdN,hv]
 ·rfl
 ·rw[hv];exact S
 ·exact nD (ji _ _ _) oM
def zBH(d:Decimal)(n:Nat)(sc:Int):Nat:=quo (val d.uA) d.uB.toNat sc%10^n
def zxY(s:Shape)(n:Nat)(d:Decimal):Bool:=(d.uI&&decide (zBH d n s.uB≠0))&&s.uG
theorem zmw(ng:Bool)(q:Nat)(sc:Int):(grD ng q sc).uI=(ng&&decide (q≠0)):=by show(canon ng (q*10^(-sc).toNat) sc.toNat).1=_;rw[ziF];congr 1;exact decide_eq_decide.2 ⟨fun h e=>h (by rw[e,Nat.zero_mul]),fun h=>Nat.mul_ne_zero h (Nat.ne_of_gt (pow_pos _))⟩
theorem zBG(d:Decimal)(n:Nat)(sc:Int):zBH d n sc<10^n:=Nat.mod_lt _ (pow_pos n)
theorem zya{ng:Bool}{q n:Nat}{sc:Int}(J:q<10^n)(B:n<=18)(j: -18<=sc)(H:sc<=18):VD (grD ng q sc):=by have I:(10:Nat)^n<=10^18:=Nat.pow_le_pow_right dE B;exact zcI oM j H
theorem zBQ(ng:Bool){q n:Nat}{sc:Int}(H:q<10^n)(j: -18<=sc)(B:sc<=18):Jl (grD ng q sc) n sc/\quo (val (grD ng q sc).uA) (grD ng q sc).uB.toNat sc=q:=by refine⟨(zvl ng q n j B).2 H,?_⟩;have J:=zbG ng q (sc:=sc) oM;have I:=ji ng (q*10^(-sc).toNat) sc.toNat;show quo (val (canon ng (q*10^(-sc).toNat) sc.toNat).2.1) (((canon ng (q*10^(-sc).toNat) sc.toNat).2.2:Int)).toNat sc=q;rw[mV];exact zlx oM oM oM J
theorem zxz(s:Shape){n q:Nat}(ng:Bool)(H:q<10^n)(j: -18<=s.uB)(B:s.uB<=18):zq1 s n (grD ng q s.uB)=(wr s n ((ng&&decide (q≠0))&&s.uG) (fmt n q),0):=by obtain⟨J,I⟩:=zBQ ng H j B;unfold zq1;rw[if_pos J,I,zmw]
theorem zu4(N:Nat){a b c:Nat}(ha:a<=9)(hb:b<=9)(hc:c<=1):∃d j:Nat,zme N (a:Int) (b:Int) (c:Int)=some ((d:Int),(j:Int))/\d<=9/\j<=1/\d+b+c=a+10*j:=by
 unfold zme;by_cases h:a<b+c
 ·refine⟨a+10-b-c,1,?_,oM,oM,oM⟩;rw[zh oM oM,za,zh oM oM,za,zb,if_pos oM,zh oM oM,za,
   show(a:Int)-b-c+10=((a+10-b-c:Nat):Int)by omega]
  rfl
 ·refine⟨a-b-c,0,?_,oM,oM,oM⟩;rw[zh oM oM,za,zh oM oM,za,zb,if_neg oM,za,za,
   show(a:Int)-b-c=((a-b-c:Nat):Int)by omega]
  rfl
theorem Qd{N L:Nat}{x y:uAU}(O:Digs x)(S:Digs y)(B:x.length=L)(H:y.length=L)(hL:L<=1000):∀(k t c:Nat)(b:uAU),t<=L->L-t<k->b.length=L->Digs (b.drop (L-t))->c<=1->
  val (b.drop (L-t))+val y%10^t=val x%10^t+c*10^t->
  ∃(r:uAU)(j:Nat),ye N k x y (c:Int) (L:Int) (t:Int) b=some (r,(j:Int))/\Digs r/\r.length=L/\j<=1/\val r+val y=val x+j*10^L
 |0,t,c,b,_,hk,_,_,_,_=>oM
 |k+1,t,c,b,ht,hk,hb,hD,hc,hv=>by
  show∃(r:uAU)(j:Nat),ZW N (ye N k) x y (c:Int) (L:Int) (t:Int) b=_/\_;unfold ZW;rw[zb];by_cases h:t<L
  ·have hi:L-1-t<L:=oM
   have dX:=jG O (i:=L-1-t) oM;have dY:=jG S (i:=L-1-t) oM;have eX:byteAt x ((L-1-t:Nat):Int)-48=(((x.getD (L-1-t) 0).toNat-48:Nat):Int):=by rw[zC];omega
   have eY:byteAt y ((L-1-t:Nat):Int)-48=(((y.getD (L-1-t) 0).toNat-48:Nat):Int):=by rw[zC];omega
   have Y:=zct O (t:=t) oM;have lY:=zct S (t:=t) oM;rw[B]at Y;rw[H]at lY;generalize (x.getD (L-1-t) 0).toNat=p at dX eX Y;generalize (y.getD (L-1-t) 0).toNat=q at dY eY lY;obtain⟨w,j,m1,m2,m3,m4⟩:=zu4 N (a:=p-48) (b:=q-48) (c:=c) oM oM hc;have eR:(48:Int)+(w:Int)=((48+w:Nat):Int):=oM
   rw[if_pos oM,B,show((L:Nat):Int)-1-(t:Int)=((L-1-t:Nat):Int)by omega,zh oM oM,za,zh oM oM,za,zH hi,za,eX,zW oM oM,zh oM oM,za,
    H,zH hi,za,eY,zW oM oM,zh oM oM,za,m1,zc]
   dsimp only;rw[eR,zh oM oM,za,hb,zH hi,za,zW oM oM,
    Zl oM oM,nY,za,zh oM oM,za,mV,ZI,show(t:Int)+1=((t+1:Nat):Int)by omega]
   have I:(b.set (L-1-t) (UInt8.ofNat (48+w))).drop (L-(t+1))=UInt8.ofNat (48+w)::b.drop (L-t):=by rw[show L-(t+1)=L-1-t by omega,zm5 (by rw[List.length_set];omega),mN,List.getElem?_set_self oM,List.drop_set_of_lt oM,show L-1-t+1=L-t by omega];rfl
   have J:=Xu (d:=w) oM;refine Qd O S B H hL k (t+1) j _ oM oM (by rw[List.length_set];exact hb) ?_ m3 ?_
   ·rw[I];exact Digs.cons.2 ⟨by rw[J];omega,hD⟩
   ·rw[I,jO,J,mP,hb,show L-(L-t)=t by omega,show 48+w-48=w by omega,Y,lY];have e:=congrArg (· *10^t) m4;simp only[uAj]at e;have U:j*10^(t+1)=10*j*10^t:=by rw[Nat.pow_succ,Nat.mul_comm (10^t) 10,<-Nat.mul_assoc,Nat.mul_comm j 10]
    rw[U];omega
  ·have Z:t=L:=oM
   subst Z;have e1:val x%10^t=val x:=nV (B▸jv O);have e2:val y%10^t=val y:=nV (H▸jv S);rw[Nat.sub_self,nS]at hD hv;rw[e1,e2]at hv;rw[if_neg oM];exact⟨b,c,rfl,hD,hb,hc,hv⟩
theorem zkH{N L:Nat}(hN:3000<N){x y:uAU}(Z:Digs x)(hy:Digs y)(j:x.length=L)(I:y.length=L)(hL:L<=1000)(Y:val y<=val x):
  ∃r,zbB N x y=some r/\Digs r/\r.length=L/\val r=val x-val y:=by
 unfold zbB VY;have U:X3 1 (x.length:Int)=true:=by show(Nat.ble (1*x.length) 281474976710656&&Nat.ble x.length 9223372036854775807)=true;rw[mY oM,mY oM];rfl
 rw[U,decide_eq_true rfl,nY,za,mV,j];obtain⟨r,B,S,O,J,h4,h5⟩:=Qd (N:=N) Z hy j I hL N 0 0 (List.replicate L 0) oM oM (by rw[mK]) (by rw[Nat.sub_zero,uAE (by rw[mK];omega)];exact Digs.nil) oM
  (by rw[Nat.sub_zero,uAE (by rw[mK];omega),Nat.pow_zero,Nat.mod_one,Nat.mod_one,zb0])
 have H:ye N N x y 0 (L:Int) 0 (List.replicate L 0)=some (r,(B:Int)):=S;rw[H,zc];have hr:val r<10^L:=J▸jv O;refine⟨r,rfl,O,J,?_⟩;rcases(show B=0\/B=1 by omega)with rfl|rfl
 ·omega
 ·omega
theorem zyL{N:Nat}(hN:3000<N){a b:Decimal}(ha:VD a)(hb:VD b):∃ng l,zm8 N a b=some (nrm ng l ((maxS a b:Nat):Int))/\
  ((a.uI=b.uI/\ng=a.uI/\val l=alD a (maxS a b)+alD b (maxS a b))\/(a.uI≠b.uI/\alD b (maxS a b)<=alD a (maxS a b)/\ng=a.uI/\val l=alD a (maxS a b)-alD b (maxS a b))\/
   (a.uI≠b.uI/\alD a (maxS a b)<alD b (maxS a b)/\ng=b.uI/\val l=alD b (maxS a b)-alD a (maxS a b))):=by
 by_cases J:a.uI=b.uI
 ·obtain⟨l,U,h2⟩:=zB9 hN ha hb J;exact⟨_,l,U,.inl ⟨J,rfl,h2⟩⟩
 ·obtain⟨L,hL0,hL,U,h2,h3⟩:=ziS (N:=N) ha hb;have hM:maxS a b<=62:=by have:=ha.2.2.2.2.1;have:=hb.2.2.2.2.1;unfold maxS;omega
  have O:=qX _ _ U;have S:=qX _ _ h2;have f1:=jZ L (alD a (maxS a b));have f2:=jZ L (alD b (maxS a b));have B:=zoN f1 f2 ((zM L (alD a (maxS a b))).trans (zM L (alD b (maxS a b))).symm);rw[O,S]at B;have H:zm8 N a b=cond (!(Op.bytesLess (fmt L (alD a (maxS a b))) (fmt L (alD b (maxS a b)))))
    (bnd (zbB N (fmt L (alD a (maxS a b))) (fmt L (alD b (maxS a b)))) fun I=>bnd (Zs N a.uI I ((maxS a b:Nat):Int)) fun j=>some (j.1,j.2))
    (bnd (zbB N (fmt L (alD b (maxS a b))) (fmt L (alD a (maxS a b)))) fun I=>bnd (Zs N b.uI I ((maxS a b:Nat):Int)) fun j=>some (j.1,j.2)):=by
   unfold zm8;rw[zpz hN ha hb,zc,show(!decide ((0:Int)=0))=false by rfl];show(bnd (zaj N a b) _)=_;rw[h3,zc,decide_eq_false J];rfl
  rw[H];cases hb2:Op.bytesLess (fmt L (alD a (maxS a b))) (fmt L (alD b (maxS a b)))with
  |true=>have hl:=B.1 hb2;obtain⟨r,Y,r2,r3,Z⟩:=zkH (N:=N) (L:=L) hN f2 f1 (zM _ _) (zM _ _) oM (by rw[O,S];omega);rw[uAf,cond_false,Y,zc,ZT hN b.uI r2 (s:=((maxS a b:Nat):Int)) oM oM oM,zc];exact⟨_,r,rfl,.inr (.inr ⟨J,hl,rfl,by rw[Z,O,S]⟩)⟩
  |false=>
   have hl:¬alD a (maxS a b)<alD b (maxS a b):=fun h=>by rw[B.2 h]at hb2;cases hb2
   obtain⟨r,Y,r2,r3,Z⟩:=zkH (N:=N) (L:=L) hN f1 f2 (zM _ _) (zM _ _) oM (by rw[O,S];omega);rw[uAS,cond_true,Y,zc,ZT hN a.uI r2 (s:=((maxS a b:Nat):Int)) oM oM oM,zc];exact⟨_,r,rfl,.inr (.inl ⟨J,oM,rfl,by rw[Z,O,S]⟩)⟩
def Gr(d:Decimal)(sc:Int):Prop:=∃q,val d.uA*10^(62+sc).toNat=q*10^(62+d.uB.toNat)
theorem zcJ{d:Decimal}(I:VD d){sc:Int}(j: -62<=sc)(B:sc<=62):Gr d sc↔exact (val d.uA) d.uB.toNat sc:=by
 have H:d.uB.toNat<=62:=by have:=I.2.2.2.2.1;omega
 constructor
 ·rintro⟨q,h⟩;exact ((Jk (n:=q) H j B).2 ⟨q,Yw q,h⟩).1
 ·intro h;obtain⟨q,_,e⟩:=(Jk (n:=quo (val d.uA) d.uB.toNat sc) H j B).1 ⟨h,Yw _⟩;exact⟨q,e⟩
theorem zDJ{ng:Bool}{l:uAU}{s:Int}(h:(nrm ng l s).2=0):VD (nrm ng l s).1:=by
 unfold nrm at h⊢;split at h
 ·cases h
 ·rename_i hc;rw[if_neg hc];exact VD.of oM oM
theorem zhF{ng:Bool}{l:uAU}{M:Nat}(h:(nrm ng l (M:Int)).2=0){sc:Int}{q:Nat}(j:val l*10^(62+sc).toNat=q*10^(62+M)):Gr (nrm ng l (M:Int)).1 sc:=by
 unfold nrm at h⊢;split at h
 ·cases h
 ·rename_i hc;rw[if_neg hc];have B:(-(M:Int)).toNat=0:=oM
  have H:((M:Int)).toNat=M:=oM
  rw[B,Nat.pow_zero,mX,H];have hv:=XB ng (val l) M;refine⟨q,?_⟩;show val (canon ng (val l) M).2.1*10^(62+sc).toNat=q*10^(62+(((canon ng (val l) M).2.2:Nat):Int).toNat);rw[mV];refine Nat.eq_of_mul_eq_mul_right (pow_pos M) ?_;rw[Nat.mul_right_comm,hv,Nat.mul_right_comm,j,Nat.pow_add,Nat.pow_add];simp only[Nat.mul_assoc,Nat.mul_comm,Nat.mul_left_comm]
theorem zt9{d:Decimal}{sc:Int}{M q:Nat}(j:d.uB.toNat<=M)(h:val d.uA*10^(62+sc).toNat=q*10^(62+d.uB.toNat)):alD d M*10^(62+sc).toNat=q*10^(62+M):=by unfold alD;rw[Nat.mul_right_comm,h,Nat.mul_assoc,<-Nat.pow_add,show 62+d.uB.toNat+(M-d.uB.toNat)=62+M by omega]
theorem zy7{N:Nat}(hN:3000<N){a b:Decimal}(ha:VD a)(hb:VD b){sc:Int}(U:Gr a sc)(Z:Gr b sc):∃r e,zm8 N a b=some (r,e)/\(e=0->VD r/\Gr r sc):=by
 obtain⟨ng,l,S,Y⟩:=zyL hN ha hb;obtain⟨J,j⟩:=U;obtain⟨O,B⟩:=Z;have j:=zt9 (M:=maxS a b) (by unfold maxS;omega) j;have B:=zt9 (M:=maxS a b) (by unfold maxS;omega) B;refine⟨_,_,S,fun H=>⟨zDJ H,?_⟩⟩;rcases Y with⟨_,_,hv⟩|⟨_,I,_,hv⟩|⟨_,I,_,hv⟩
 ·exact zhF H (q:=J+O) (by rw[hv,uAj,j,B,uAj])
 ·exact zhF H (q:=J-O) (by rw[hv,Nat.sub_mul,j,B,Nat.sub_mul])
 ·exact zhF H (q:=O-J) (by rw[hv,Nat.sub_mul,j,B,Nat.sub_mul])
theorem zqO{N:Nat}{d:Decimal}(Y:VD d){sc:Int}(Z: -62<=sc)(h:sc<d.uB):∃r,zs2 N d sc=some r:=by
 obtain⟨g1,U,g3,g4,g5,_⟩:=Y;obtain⟨m,O⟩:∃m:Nat,d.uB-sc=(m:Int):=⟨(d.uB-sc).toNat,oM⟩
 have S:1<=m:=oM
 unfold zs2;rw[O,zh oM oM,za,zb];by_cases I:(d.uA.length:Int)<(m:Int)
 ·rw[if_pos I];exact⟨_,rfl⟩
 ·have H:zk ((d.uA.length:Int)-(m:Int)) (d.uA.length:Int) d.uA.length=true:=by unfold zk;simp<;>omega
  have j:(d.uA.drop (d.uA.length-m)).length=m:=by rw[mP];omega
  rw[if_neg I,zh oM oM,za,H,za,Xt _ oM,j,show inIx 0 m=true from zH (i:=0) oM,za,zb];split
  ·exact⟨_,rfl⟩
  ·rw[za,zb];split
   ·exact⟨_,rfl⟩
   ·have B:zk 1 (m:Int) m=true:=by unfold zk;simp<;>omega
    obtain⟨t,J,_⟩:=zsP (s:=(d.uA.drop (d.uA.length-m)).drop 1) (by rw[mP,j];omega) ((U.drop _).drop _);rw[B,za,show zO (d.uA.drop (d.uA.length-m)) 1=(d.uA.drop (d.uA.length-m)).drop 1 from rfl,J,zc];cases(!decide (t=[]))<;>exact⟨_,rfl⟩
theorem zuM{N:Nat}{d:Decimal}(H:VD d){sc:Int}(I: -62<=sc)(S:sc<=62):∃r,zBr N d sc=some r:=by
 obtain⟨O,B,J,Y,U,_⟩:=H;unfold zBr;rw[zh oM oM,za,zh oM oM,za,zh oM oM,za,zb];split
 ·rw[zb];split
  ·obtain⟨i,hi⟩:∃i:Nat,(d.uA.length:Int)-1-(d.uB-sc)=(i:Int):=⟨((d.uA.length:Int)-1-(d.uB-sc)).toNat,oM⟩
   have j:i<d.uA.length:=oM
   have dg:=jG B j;have e:byteAt d.uA (i:Int)-48=(((d.uA.getD i 0).toNat-48:Nat):Int):=by rw[zC];omega
   rw[hi,zH j,za,e,zW oM oM,show(zf (((d.uA.getD i 0).toNat-48:Nat):Int)&&decide (0<2))=true by simp only[zf,mF,decide_eq_true_eq];omega,za];exact⟨_,rfl⟩
  ·exact⟨_,rfl⟩
 ·exact⟨_,rfl⟩
theorem zqQ{N:Nat}{d j:Decimal}(O:VD d)(I:VD j){sc:Int}(B: -62<=sc)(J:sc<=62)(h:sc<d.uB)(m:Int):∃r,zs3 N d j sc m=some r:=by
 obtain⟨r,e⟩:=zqO (N:=N) O B h;obtain⟨S,H⟩:=zuM (N:=N) I B J;unfold zs3;rw[e,zc,H];simp only[zb,zc]
 repeat' split
 all_goals exact⟨_,rfl⟩
theorem zuL{N:Nat}(hN:3000<N){d:Decimal}(B:VD d){sc:Int}(Z: -18<=sc)(h2:sc<=18){m:Int}(hm:m<=7):∃j e,zlv N d sc m=some (j,e)/\(e=0->VD j/\Gr j sc):=by
 obtain⟨t,ht⟩:=zyJ hN B (s:=sc) oM oM;obtain⟨I,c2,c3⟩:=zpD B (s:=sc) oM oM;have Y:=(zcJ I oM oM).2 c2;have J:t=false->sc<d.uB:=by
  intro e;obtain⟨x,e0,H,_⟩:=zgM hN B (s:=sc) oM oM;rw[ht]at H;by_cases hle:d.uB<=sc
  ·have hx:t=decide (val d.uA%10^(d.uB-sc).toNat=0):=by injection H with H;injection H with _ H;injection H
   rw[show(d.uB-sc).toNat=0 by omega,Nat.pow_zero,Nat.mod_one,e]at hx;cases hx
  ·omega
 unfold zlv;rw[show zbb N d 1 sc=some 0 from(WH hN (n:=1) (by have:=B.2.2.1;omega) oM oM oM oM).trans (by rw[if_pos B]),zc];show∃j e,cond (decide (7<m)) _ (bnd (zjw N d sc) _)=_/\_;rw[zb,if_neg oM,ht,zc];show∃j e,QQ N sc m 0 t d (Decimal.mk false [] 0) (zas d sc)=_/\_;unfold QQ;cases t with
 |true=>exact⟨_,_,rfl,fun _=>⟨I,Y⟩⟩
 |false=>
  rw[cond_false,zb];split
  ·exact⟨_,_,rfl,fun h=>by cases h⟩
  ·obtain⟨r,e⟩:=zqQ (N:=N) B I (sc:=sc) oM oM (J rfl) m;rw[e,zc];cases r with
   |false=>exact⟨_,_,rfl,fun _=>⟨I,Y⟩⟩
   |true=>
    have O:nrm d.uI [49] sc=(jS (canon d.uI (1*10^(-sc).toNat) sc.toNat),0):=by
     have hv:=zcI (ng:=d.uI) (q:=1) (sc:=sc) dE Z h2;have S:=hv.2.2.1;have U:=hv.2.2.2.2.1;refine zdN (l:=[49]) ?_ ?_
     ·exact S
     ·have:((canon d.uI (1*10^(-sc).toNat) sc.toNat).2.2:Int)<=62:=U;have e1:val [49]=1:=rfl;rw[e1];omega
    rw[zgL hN d.uI (l:=[49]) dE sI sI oM oM,O,zc];show∃j e,bnd (zm8 N (zas d sc) (jS (canon d.uI (1*10^(-sc).toNat) sc.toNat))) _=_/\_;obtain⟨r,e',q1,q2⟩:=zy7 hN I (zcI (ng:=d.uI) (q:=1) (sc:=sc) dE Z h2) (sc:=sc) Y ⟨1,by
     have:=zbG d.uI 1 (sc:=sc) oM;show val (canon d.uI (1*10^(-sc).toNat) sc.toNat).2.1*_=1*10^(62+(((canon d.uI (1*10^(-sc).toNat) sc.toNat).2.2:Nat):Int).toNat);rw[mV];exact this⟩
    rw[q1,zc];exact⟨r,e',rfl,q2⟩
def fit(b:uAU)(n:Nat)(left:Bool):uAU:=if left=true then List.replicate (n-b.length) 32++b.drop (b.length-n)else b.take n++List.replicate (n-b.length) 32
theorem zEF{n:Nat}(h:n<=100000000):(X3 1 (n:Int)&&decide ((n:Int)=(n:Int)))=true:=by show((Nat.ble (1*n) 281474976710656&&Nat.ble n 9223372036854775807)&&decide ((n:Int)=(n:Int)))=true;rw[decide_eq_true rfl,Bool.and_true,mF,uAQ,uAQ];omega
structure MS(s:Shape)(z:Nat):Prop where
 chk:chkV s=0
 pic:s.uD.length<=400
 siz:s.uE=(z:Int)
 c0:0<=s.uC
 c5:s.uC<=5
 u0:0<=s.uH
 zle:z<=1048576
 zl:s.uC≠0->z<=400
theorem zpL{s:Shape}(h:chkV s=0):qm s=0:=by
 unfold chkV at h;by_cases j:qm s=0
 ·exact j
 ·rw[if_pos j]at h;exact absurd h j
theorem zCA{s:Shape}(h:chkV s=0)(hp:s.uD.length<=400)(hc:0<=s.uC)(H:0<=s.uH):∃z,MS s z:=by
 have j:=zpL h;have I:=j;unfold qm at j;split at j
 ·cases j
 ·rename_i J;split at j
  ·cases j
  ·rename_i S;split at j
   ·cases j
   ·rename_i O;by_cases B:s.uC=0
    ·refine⟨s.uE.toNat,h,hp,oM,hc,oM,H,oM,fun e=>absurd B e⟩
    ·have Y:=zAm h B;have U:0<=sizeV s/\sizeV s<=400:=by
      unfold sizeV;rw[if_neg B];split
      ·have:szN s.uD<=s.uD.length:=by unfold szN;omega
       omega
      ·repeat' split
       all_goals omega
     refine⟨s.uE.toNat,h,hp,oM,hc,oM,H,oM,fun _=>oM⟩
def ztE(s:Shape)(b:uAU):Decimal×Int:=if s.uC=4 then Ji s s.uA.toNat b else if s.uC=5 then zCK s s.uA.toNat s.uB.toNat b else if(Lib.trimS b [32]≠[]/\Digs (Lib.trimS b [32]))/\(Lib.trimS b [32]).length<=62 then nrm false (Lib.trimS b [32]) 0 else(zgS,15)
theorem NS.nat{s:Shape}{n:Nat}(h:NS s n):s.uA.toNat=n:=by have:=h.dig;omega
theorem ES.nat{s:Shape}{n sc:Nat}{sg:Bool}(h:ES s n sc sg):s.uA.toNat=n/\s.uB.toNat=sc:=by have:=h.dig;have:=h.scl;omega
theorem zBS{s:Shape}{n:Nat}(h:NS s n){b:uAU}(B:(Ji s n b).2=0):VD (Ji s n b).1:=by
 unfold Ji at B⊢;by_cases j:(ZC s n b).2=0
 ·rw[if_pos j];obtain⟨J,H,I⟩:=za9 h j;rw[I];obtain⟨S,O⟩:=zlt h J H;exact (ztD h S O).1
 ·rw[if_neg j]at B;exact absurd B j
theorem zsS{s:Shape}{n:Nat}(h:NS s n):szV s n<=300:=by
 have:=h.n18;unfold szV binW
 repeat' split
 all_goals omega
theorem MS.sz4{s:Shape}{z n:Nat}(h:MS s z)(j:NS s n):z=szV s n:=by have B:=h.siz;have H:=j.size;omega
def zlg(t:Shape)(d:Decimal):uAU×Int:=if t.uC=5 then((edT t t.uA.toNat d.uI (zdP d t.uA.toNat t.uB.toNat)).getD [],0)else(wr t t.uA.toNat (zxY t t.uA.toNat d) (fmt t.uA.toNat (zBH d t.uA.toNat t.uB)),0)
def zhO(s:Shape):Nat:=s.uA.toNat+(-s.uB).toNat
theorem zEH{t:Shape}(h:chkV t=0)(j:t.uC=3):zaN t 3=0:=by unfold zaN;rw[if_neg (fun e=>e h),if_neg (fun e=>e j)]
def tx(c:Int)(p:uAU)(j:Bool):Shape:=Shape.mk c 0 p 0 0 false false false j false (p.length:Int)
theorem ztR{c:Int}{p:uAU}(hpar:parS p=(tx c p false,0))(hne:p≠[])(hl:p.length<=80)(hsym:∀x∈p,syms.contains x=true)(hc:1<=c/\c<=3)(hsz:(tx c p false).uE=sizeV (tx c p false)):Good p (tx c p false) where
 par:=hpar
 ne:=hne
 len:=hl
 sym:=hsym
 pic:=rfl
 cat:=by show 1<=c/\c<=5;omega
 use:=rfl
 dig:=by show(0:Int)<=18;decide
 num:=fun h=>by have h:c=4:=h;omega
 sca:=by show(0:Int)<=18;decide
 led:=rfl
 sep:=rfl
 jus:=rfl
 bla:=rfl
 siz:=hsz
theorem zyb{m:Nat}(Z:1<=m)(I:m<=80):Good (List.replicate m 65) (tx 1 (List.replicate m 65) false)/\Good (List.replicate m 88) (tx 2 (List.replicate m 88) false):=by
 have H:∀c:UInt8,(List.replicate m c).length=m:=fun c=>mK
 have j:∀c:UInt8,List.replicate m c≠[]:=fun c e=>by have:=congrArg List.length e;rw[H]at this;simp at this;omega
 have B:∀(c:UInt8)(k:Int),c≠86->(k=1\/k=2)->(tx k (List.replicate m c) false).uE=sizeV (tx k (List.replicate m c) false):=fun c k hc hk=>by
  unfold sizeV;rw[if_neg (show¬(tx k (List.replicate m c) false).uC=0 from fun e=>by have e:k=0:=e;omega),if_pos (show(tx k (List.replicate m c) false).uC≠4 from fun e=>by have e:k=4:=e;omega)];unfold szN;show((List.replicate m c).length:Int)=(((List.replicate m c).length-(List.replicate m c).count 86:Nat):Int)
  rw[List.count_eq_zero.2 (fun O=>hc (List.eq_of_mem_replicate O).symm),Nat.sub_zero]
 have J:∀(set:uAU)(c:UInt8),set.contains c=true->cnt set (List.replicate m c)=(List.replicate m c).length:=fun set c h=>zeb fun x Y=>by rw[List.eq_of_mem_replicate Y];exact h
 refine⟨ztR ?_ (j _) (by rw[H];exact I) (fun c hc=>by rw[List.eq_of_mem_replicate hc];decide) dE (B 65 1 dE (.inl rfl)),ztR ?_ (j _) (by rw[H];exact I) (fun c hc=>by rw[List.eq_of_mem_replicate hc];decide) dE (B 88 2 dE (.inr rfl))⟩
 ·unfold parS zdq;rw[if_pos (J [65] 65 dE)];rfl
 ·unfold parS zdq;have U:¬cnt [65] (List.replicate m (88:UInt8))=(List.replicate m (88:UInt8)).length:=by
   obtain⟨k,rfl⟩:∃k,m=k+1:=⟨m-1,oM⟩
   rw[List.replicate_succ,yf,if_neg dE,mM];omega
  have S:¬(List.replicate m (88:UInt8)).countP zvg=0:=by
   obtain⟨k,rfl⟩:∃k,m=k+1:=⟨m-1,oM⟩
   rw[List.replicate_succ,List.countP_cons_of_pos (by rfl)];omega
  rw[if_neg U,if_neg S,if_pos (J [65,88,57] 88 dE)];rfl
theorem zCr{c:Int}{p:uAU}(I:Good p (tx c p false))(hc:c=1\/c=2)(j:Bool):MS (tx c p j) p.length:=by
 have B:=zkr I;have Y:=I.len;have O:(p.length:Int)=sizeV (tx c p false):=I.siz;have H:(p.length:Int)=sizeV (tx c p j):=O;refine⟨?_,by show p.length<=400;omega,rfl,by show 0<=c;omega,by show c<=5;omega,by show(0:Int)<=0;decide,oM,fun _=>oM⟩;have J:qm (tx c p j)=0:=by unfold qm tx;dsimp only;rw[if_neg oM,if_neg oM,if_neg oM]
 unfold chkV;rw[if_neg (fun k=>k J),if_neg (show¬(tx c p j).uC=0 from fun e=>by have e:c=0:=e;omega)];unfold zfk;rw[show(tx c p j).uD=p from rfl,B];unfold KM;have S:c≠4:=oM
 simp only[tx,ne_eq,not_true_eq_false,if_false,or_self,decide_false,nA,false_and,not_false_eq_true,S];rw[if_neg (by rintro⟨_,J,U⟩;omega)];exact if_pos H
def gr(n:Nat):Shape:=Shape.mk 0 0 [] 0 0 false false false false false (n:Int)
theorem zDR{n:Nat}(h:n<=1000):MS (gr n) n:=by
 refine⟨?_,uAm _,rfl,Int.le_refl 0,show(0:Int)<=5 by decide,Int.le_refl 0,oM,fun e=>absurd rfl e⟩;have B:qm (gr n)=0:=by unfold qm gr;dsimp only;rw[if_neg oM,if_neg oM,if_neg oM]
 have j:zh7 (gr n):=⟨rfl,rfl,rfl,rfl,rfl,rfl,rfl,rfl,rfl⟩
 unfold chkV;rw[if_neg (fun k=>k B),if_pos (show(gr n).uC=0 from rfl),if_pos j]
theorem zFg(l:uAU):shT (3::l)=tx 3 (picT (3::l)) false:=by
 unfold shT ziD;rw[if_neg]
 ·rfl
 ·intro h;have:=zng h 66 (by unfold picT;simp[sy6]);exact absurd this dE
theorem zE0{l:uAU}(B:l.length<=19):MS (tx 3 (picT (3::l)) false) (picT (3::l)).length:=by have j:=zvm (l:=3::l) (by simpa using B);rw[zFg]at j;have:=j.len;exact⟨zo3 j,by show(picT _).length<=400;omega,rfl,show(0:Int)<=3 by decide,show(3:Int)<=5 by decide,Int.le_refl 0,oM,fun _=>oM⟩
structure FX(x:F_64):Prop where
 k0:0<=x.vE
 d0:0<=x.vF
 d1:x.vF<=255
 p0:0<=x.vG
 p1:x.vG<=255
 f0:0<=x.vH
 f1:x.vH<=255
 s0:0<=x.wC
 o0:0<=x.wD
 w0:0<=x.wE
 m0:0<=x.wF
 n0:0<=x.wG
 t0:0<=x.wH
 a0:0<=x.wI
 ins:∀v∈x.wJ,0<=v/\v<=65535
def fF(x:F_64):F:=F.mk x.vF x.vG x.vH x.vO x.wK
def fE(x:F_64):E:=E.mk x.wC x.wD x.wE x.wF x.wG x.wH x.wI x.wJ x.wN
theorem zdi{N:Nat}{sym:UInt8}{x:F_64}{b1:Shape}{c:Int}{m:Nat}(j:m<=1000):∀(k i:Nat),i<=m->m-i<k->
  XF N k [sym] (i:Int) x b1 (Shape.mk c 0 (List.replicate i sym) 0 0 false false false false false (m:Int))=some (tx c (List.replicate m sym) x.uM)
 |0,i,_,hk=>oM
 |k+1,i,hi,hk=>by
  show Wk N (XF N k) [sym] _ x b1 _=_;unfold Wk;dsimp only;rw[zb];by_cases h:i<m
  ·rw[if_pos oM,Zu (by simp;omega),za,zh oM oM,za,<-List.replicate_succ',show(i:Int)+1=((i+1:Nat):Int)by omega];exact zdi j k (i+1) oM oM
  ·have:i=m:=oM
   subst this;rw[if_neg oM];unfold tx;rw[mK]
theorem zDm{c:UInt8}:atS ([[88],[65],[57],[66],[48],[47]]:List uAU) ((c.toNat:Int)%6)=[sy6 c]:=by
 unfold atS sy6;rw[show((c.toNat:Int)%6).toNat=c.toNat%6 by omega];have h:c.toNat%6<6:=Nat.mod_lt _ dE;generalize c.toNat%6=j at h;rcases j with _|_|_|_|_|_|j
 all_goals first|rfl|omega
theorem zdh{N:Nat}{x:F_64}{b1:Shape}{n:Nat}(S:n<=x.uO.length)(H:n<=24)(z:Int):∀(k i:Nat),i<=min n 12->min n 12-i<k->
  XE N k (n:Int) (i:Int) x b1 (Shape.mk 3 0 (picT (3::x.uO.take i)) 0 0 false false false false false z)=some (tx 3 (picT (3::x.uO.take (min n 12))) false)
 |0,i,_,hk=>oM
 |k+1,i,hi,hk=>by
  show Wj N (XE N k) _ _ x b1 _=_;unfold Wj;dsimp only;have O:(picT (3::x.uO.take i)).length<=100:=by unfold picT;simp;omega
  rw[zb];by_cases h:i<min n 12
  ·have B:i<x.uO.length:=oM
   have I:(zf (byteAt x.uO (i:Int))&&decide ((0:Int)<6))=true:=by show(zf (((x.uO.getD i 0).toNat:Nat):Int)&&_)=true;unfold zf;rw[decide_eq_true oM];rfl
   have hb:byteAt x.uO (i:Int)=(((x.uO.getD i 0).toNat:Nat):Int):=rfl;rw[if_pos oM,zb,if_pos oM,zw.2 ⟨oM,oM⟩,za];have j:(zf (byteAt x.uO (i:Int))&&decide (0<6))=true:=I;rw[j,za,hb,zw.2 ⟨oM,by show _<((6:Nat):Int);omega⟩,za,za,zDm,Zu (by simp;omega),za,zh oM oM,za];have e:picT (3::x.uO.take i)++[sy6 (x.uO.getD i 0)]=picT (3::x.uO.take (i+1)):=by rw[zqo B];unfold picT;simp
   rw[e,show(i:Int)+1=((i+1:Nat):Int)by omega];exact zdh S H z k (i+1) oM oM
  ·have:i=min n 12:=oM
   subst this;by_cases J:(((min n 12:Nat):Nat):Int)<(n:Int)
   ·rw[if_pos J,zb,if_neg oM];rfl
   ·rw[if_neg J];rfl
theorem zxT(a b:Nat):zao (a:Int) (b:Int)=((min a b:Nat):Int):=by unfold zao;split<;>omega
theorem zv5{N:Nat}(hN:3000<N){x:F_64}(B:FX x):∃s z,ziZ N x=some s/\MS s z/\z<=400/\s.uC=x.vE%6/\(s.uC=3->z=s.uD.length)/\
  (s.uC=4->Qx N (fF x)=some s)/\(s.uC=5->Kr N (fE x)=some s):=by
 have hk:=B.k0;obtain⟨k,hk6⟩:=zbm (k:=6) hk dE;have hlt:k<6:=oM
 have hn:zao ((x.uO).length:Int) 24=((min x.uO.length 24:Nat):Int):=zxT _ 24;obtain⟨n,hn'⟩:∃n,n=min x.uO.length 24:=⟨_,rfl⟩
 rw[<-hn']at hn;have J:n<=24:=oM
 have hm:jF (n:Int) 1=((max n 1:Nat):Int):=by unfold jF;split<;>omega
 have key:∀t:Bool,t=decide ((k:Int)=1\/(k:Int)=2)->∃s z,XH N (n:Int) (k:Int) t x z0 (Shape.mk (k:Int) 0 [] 0 0 false false false false false (n:Int))=some s/\MS s z/\z<=400/\s.uC=(k:Int)/\(s.uC=3->z=s.uD.length)/\
   (s.uC=4->Qx N (fF x)=some s)/\(s.uC=5->Kr N (fE x)=some s):=by
  intro t U;unfold XH;dsimp only;have txt:∀(c:Int)(sym:UInt8),(c=1/\sym=65\/c=2/\sym=88)->∃s z,XG N (n:Int) [sym] x z0 (Shape.mk c 0 [] 0 0 false false false false false (n:Int))=some s/\MS s z/\z<=400/\s.uC=c/\(s.uC=3->z=s.uD.length)/\
    (s.uC=4->Qx N (fF x)=some s)/\(s.uC=5->Kr N (fE x)=some s):=by
   intro c sym hc;have hg:=zyb (m:=max n 1) oM oM;refine⟨tx c (List.replicate (max n 1) sym) x.uM,max n 1,?_,?_,?_,rfl,fun e=>?_,fun e=>?_,fun e=>?_⟩
   ·unfold XG;dsimp only;rw[hm];exact zdi oM N 0 oM oM
   ·rcases hc with⟨rfl,rfl⟩|⟨rfl,rfl⟩
    ·have:=zCr hg.1 (.inl rfl) x.uM;rwa [mK]at this
    ·have:=zCr hg.2 (.inr rfl) x.uM;rwa [mK]at this
   ·omega
   ·have e:c=3:=e;omega
   ·have e:c=4:=e;omega
   ·have e:c=5:=e;omega
  cases t with
  |true=>
   have U:=of_decide_eq_true U.symm;rw[cond_true,zb];by_cases O:(k:Int)=2
   ·rw[if_pos O,O];exact txt 2 88 (.inr ⟨rfl,rfl⟩)
   ·rw[if_neg O];have I:(k:Int)=1:=oM
    rw[I];exact txt 1 65 (.inl ⟨rfl,rfl⟩)
  |false=>
   have U:=of_decide_eq_false U.symm;rw[cond_false,zb];by_cases h3:(k:Int)=3
   ·rw[if_pos h3,h3];have Z:=zdh (N:=N) (x:=x) (b1:=z0) (n:=n) oM J (n:Int) N 0 oM oM;refine⟨tx 3 (picT (3::x.uO.take (min n 12))) false,(picT (3::x.uO.take (min n 12))).length,Z,zE0 (by rw[mI];omega),?_,rfl,fun _=>rfl,(fun e=>by cases e),(fun e=>by cases e)⟩;unfold picT;simp;omega
   ·rw[if_neg h3,zb];by_cases h4:(k:Int)=4
    ·rw[if_pos h4,h4];have hf:=zkw (N:=N) hN (x:=fF x) (dg:=x.vF.toNat) (fm:=x.vH.toNat) (pt:=x.vG.toNat) (by have:=B.d0;show x.vF=_;omega) (by have:=B.f0;show x.vH=_;omega) (by have:=B.f1;omega) (by have:=B.p0;show x.vG=_;omega) (by have:=B.p1;omega) (by have:=B.d1;omega);have I:1<=x.vF.toNat%18+1:=oM
     have O:x.vF.toNat%18+1<=18:=oM
     obtain⟨g1,g2,g3⟩:=zwz (pt:=x.vG.toNat) (fm:=x.vH.toNat) I O;obtain⟨z,S⟩:=zCA g2 g3 (by rw[g1.cat];decide) (by rcases g1.use with e|e|e<;>rw[e]<;>decide);have j:=g1.cat;refine⟨shX (x.vF.toNat%18+1) x.vG.toNat x.vH.toNat,z,?_,S,S.zl (by rw[j];decide),j,(fun e=>by rw[j]at e;cases e),fun _=>hf,(fun e=>by rw[j]at e;cases e)⟩;show bnd (Qx N (fF x)) _=_;rw[hf,zc]
    ·rw[if_neg h4,zb];by_cases Y:(k:Int)=5
     ·rw[if_pos Y,Y];obtain⟨sg,w,mn,ni,pt,pa,hp⟩:=zCy (x:=fE x) B.s0 B.o0 B.w0 B.m0 B.n0 B.t0 B.a0;obtain⟨s,n',sc,g,e1,H,e3,e4,e5⟩:=zkD hN hp B.ins;have j:=e3.cat;have hu:s.uH=0:=by
       have:=zpL H;apply Classical.byContradiction;intro hu;unfold chkV at H;rw[if_neg (fun h=>h this),if_neg oM]at H;unfold zfk at H;split at H
       ·rename_i hh;exact hh H
       ·split at H
        ·cases H
        ·unfold KM at H;split at H
         ·cases H
         ·rw[if_pos ⟨hu,oM⟩]at H;cases H
      obtain⟨z,S⟩:=zCA H oM (by rw[j];decide) oM;refine⟨s,z,?_,S,S.zl (by rw[j];decide),j,(fun e=>by rw[j]at e;cases e),(fun e=>by rw[j]at e;cases e),fun _=>e1⟩;show bnd (Kr N (fE x)) _=_;rw[e1,zc]
     ·have hk0:k=0:=oM
      subst hk0;rw[if_neg Y];exact⟨gr n,n,rfl,zDR oM,oM,rfl,(fun e=>by cases e),(fun e=>by cases e),(fun e=>by cases e)⟩
 have hnn:(zf x.vE&&decide (0<6))=true:=by unfold zf;rw[decide_eq_true hk];rfl
 unfold ziZ;rw[hnn,za,hn,hk6,zb];by_cases I:(k:Int)=1
 ·rw[if_pos I];exact key _ (decide_eq_decide.2 ⟨fun e=>.inl e,fun _=>I⟩)
 ·rw[if_neg I];exact key _ (decide_eq_decide.2 ⟨fun e=>.inr e,fun e=>by rcases e with e|e;exact absurd e I;exact e⟩)
theorem zB0{N:Nat}(hN:3000<N){x:F}(U:0<=x.uA)(h2:x.uA<=255)(h3:0<=x.uN)(h4:x.uN<=255)(h5:0<=x.uP)(h6:x.uP<=255):
  ∃s n ng l,Qx N x=some s/\NS s n/\chkV s=0/\s.uD.length<=400/\Digs l/\l.length=n/\(ng=true->s.uG=true/\val l≠0)/\fOf N x=some (fld s (wr s n ng l)):=by
 have B:=zkw (N:=N) hN (x:=x) (dg:=x.uA.toNat) (fm:=x.uP.toNat) (pt:=x.uN.toNat) oM oM oM oM oM oM;obtain⟨n,Z⟩:∃n,n=x.uA.toNat%18+1:=⟨_,rfl⟩
 obtain⟨l,ht,S,I⟩:=zpa (N:=N) hN (x:=x) U;rw[<-Z]at B I;obtain⟨j,hc,hp⟩:=zwz (n:=n) (pt:=x.uN.toNat) (fm:=x.uP.toNat) oM oM;generalize shX n x.uN.toNat x.uP.toNat=s at B j hc hp;have Y:=j.n18;have O:=j.sc1;have J:=j.sc2;obtain⟨ng,H⟩:∃ng,ng=(x.uI&&(s.uG&&decide (val l≠0))):=⟨_,rfl⟩
 refine⟨s,n,ng,l,B,j,hc,hp,S,I,?_,?_⟩
 ·intro e;rw[H]at e;simp only[mF,decide_eq_true_eq]at e;exact e.2
 ·unfold fOf;rw[B,zc,ht,zc,zvc hN j S I x.uI,zc,<-H];rfl
theorem zkS{N:Nat}{x:F_64}{s:Shape}{z:Nat}(H:s.uE=(z:Int))(Z:z<=1000000):∀(k i:Nat)(L:uAU),i<=z->z-i<k->L.length=z->
  ∃b,zeo N k (i:Int) x 0 0 [] 0 0 false false false false false 0 s s.uC s.uH s.uD s.uA s.uB s.uG s.uK s.uL s.uM s.uJ s.uE L=some (fld s b)/\b.length=z
 |0,i,_,_,hk,_=>oM
 |k+1,i,L,hi,hk,hL=>by
  show∃b,zi0 N (zeo N k) _ x 0 0 [] 0 0 false false false false false 0 s _ _ _ _ _ _ _ _ _ _ _ L=some (fld s b)/\_;unfold zi0;rw[H,zb];by_cases h:i<z
  ·have j:(i:Int)+1=((i+1:Nat):Int):=oM
   have U:∀L':uAU,L'.length=z->∃b,zeo N k ((i+1:Nat):Int) x 0 0 [] 0 0 false false false false false 0 s s.uC s.uH s.uD s.uA s.uB s.uG s.uK s.uL s.uM s.uJ (z:Int) L'=some (fld s b)/\b.length=z:=fun L' O=>by have:=zkS (N:=N) (x:=x) H Z k (i+1) L' oM oM O;rwa [H]at this
   rw[if_pos oM,zw.2 ⟨oM,oM⟩,za];rw[show chk (true&&inKb .u8 32)=chk (true:Bool) (α:=Field)from rfl,za,zb];by_cases S:0<(x.uO.length:Int)
   ·have J:(zf (i:Int)&&decide (0<(x.uO.length:Int)))=true:=by unfold zf;rw[decide_eq_true S,decide_eq_true oM];rfl
    have B:(i:Int)% (x.uO.length:Int)=((i%x.uO.length:Nat):Int):=oM
    have Y:i%x.uO.length<x.uO.length:=Nat.mod_lt _ oM;have I:byteAt x.uO ((i%x.uO.length:Nat):Int)=(((x.uO.getD (i%x.uO.length) 0).toNat:Nat):Int):=rfl;rw[if_pos S,J,za,B,zw.2 ⟨oM,oM⟩,za,List.length_set,zw.2 ⟨oM,oM⟩,za,I,yG,nY,za,zh oM oM,za,j];exact U _ (by rw[List.length_set,List.length_set,hL])
   ·rw[if_neg S,zh oM oM,za,j];exact U _ (by rw[List.length_set,hL])
  ·have:i=z:=oM
   subst this;rw[if_neg oM];exact⟨L,by rw[<-H];rfl,hL⟩
theorem zzb{N:Nat}(hN:3000<N){x:F_64}(j:FX x):∃s z b,ziZ N x=some s/\MS s z/\z<=400/\s.uC=x.vE%6/\FOf N x=some (fld s b)/\b.length=z:=by
 obtain⟨s,z,e1,H,hz,hc,_,h4,h5⟩:=zv5 hN j;have hS:=H.siz;unfold FOf;rw[e1];by_cases O:s.uC=4
 ·obtain⟨s',n,ng,l,J,hs,hchk,hp,hd,hl,S,f2⟩:=zB0 hN (x:=fF x) j.d0 j.d1 j.p0 j.p1 j.f0 j.f1;rw[h4 O]at J;cases J;refine⟨s,z,wr s n ng l,rfl,H,hz,hc,?_,?_⟩
  ·rw[zc,decide_eq_true O,cond_true];show bnd (fOf N (fF x)) _=_;rw[f2,zc]
  ·rw[(zoj hs hd hl S).2,H.sz4 hs]
 ·by_cases Y:s.uC=5
  ·obtain⟨sg,w,mn,ni,pt,pa,hp⟩:=zCy (x:=fE x) j.s0 j.o0 j.w0 j.m0 j.n0 j.t0 j.a0;obtain⟨s',n,sc,g,J,f2,B,U,f5⟩:=zkD hN hp j.ins;rw[h5 Y]at J;cases J;obtain⟨l,e2,hld,hll⟩:=zpa hN (x:=fF x) j.d0;obtain⟨d1,d2,d3⟩:=zET hld U;have hsc:=B.scn;have hn1:=B.n1;have hll2:l.length<=18:=by rw[hll];have:=Nat.mod_lt (fF x).uA.toNat (show 0<18 by decide);omega
   generalize hds:(l++qW).take n=ds at d1 d2;have hq:val ds<10^n:=by have:=jv d1;rwa [d2]at this
   obtain⟨r,e3,e4⟩:=zv7 hN B f2 (zCD (neg:=x.vO) (n:=n) oM hn1 hq (show sc<=62 by omega));refine⟨s,z,r,rfl,H,hz,hc,?_,?_⟩
   ·rw[zc,decide_eq_false O,cond_false,decide_eq_true Y,cond_true];show bnd (zkv N (fF x)) _=_;have htk:jy (l++qW) (n:Int)=ds:=hds;rw[e2,zc];show chk (zY l qW) (chk (zk 0 s.uA (l++qW).length) (bnd (zdT N x.vO (jy (l++qW) s.uA) s.uB) _))=_;rw[Zu (by show _+12<=_;omega),za,B.dig,d3,za,htk,B.scl,zC0 hN x.vO d1 oM oM,zc,e3,zc];rw[<-B.dig,<-B.scl];rfl
   ·omega
  ·obtain⟨b,g1,g2⟩:=zkS (N:=N) (x:=x) hS oM N 0 (List.replicate z 0) (uAm _) oM mK;refine⟨s,z,b,rfl,H,hz,hc,?_,g2⟩;rw[zc,decide_eq_false O,cond_false,decide_eq_false Y,cond_false];have I:(List.replicate s.uE.toNat (0:UInt8))=List.replicate z 0:=by rw[hS,mV]
   have Z:(X3 1 s.uE&&decide (s.uE=s.uE))=true:=by rw[hS];exact zEF oM
   rw[Z,za,I];exact g1
def zD:Decimal:=Decimal.mk false [48] 0
theorem zCo:VD zD:=by have:=VD.of (neg:=false) (v:=0) (s:=0) dE dE;exact this
theorem zCi{n:Nat}(c:UInt8)(j:n<=100000000):zjA ([((c.toNat:Nat):Int)].map toByte) (n:Int)=some (List.replicate n c):=by
 have e:[((c.toNat:Nat):Int)].map toByte=[c]:=by show[toByte _]=[c];rw[yw]
 rw[e];show chk (decide ((0:Int)<=(n:Int))&&decide ((n:Int)<=140737488355328)) (some (List.replicate ((n:Int)).toNat c))=_;rw[decide_eq_true oM,decide_eq_true oM,mV];rfl
theorem zoJ{N n:Nat}(c:UInt8)(j:n<=100000000):zhK N (n:Int) ((c.toNat:Nat):Int)=some (List.replicate n c,((c.toNat:Nat):Int)):=by unfold zhK;rw[yG,nY,za,zCi c j,zc]
def rpV(s:Shape)(c:UInt8):uAU×Int:=if s.uC=4\/s.uC=5 then(if c≠48 then([],12)else if s.uC=5 then((edT s s.uA.toNat false (zdP zD s.uA.toNat s.uB.toNat)).getD [],0)else zq1 s s.uA.toNat zD)else if s.uC=3 then(txt s.uD (List.replicate s.uD.length c),0)else(List.replicate s.uE.toNat c,0)
theorem zrn{N:Nat}(hN:3000<N){s:Shape}{z:Nat}(h:MS s z)(c:UInt8):Y0 N ((c.toNat:Nat):Int) s=some (rpV s c):=by
 have hz:=h.zle;have hS:s.uE.toNat=z:=by have:=h.siz;omega
 have hp:=h.pic;have Z:∀t:Bool,t=decide (s.uC=4\/s.uC=5)->Yv N s.uC t ((c.toNat:Nat):Int) s=some (rpV s c):=by
  intro t I;unfold Yv rpV;cases t with
  |true=>
   have I:=of_decide_eq_true I.symm;rw[cond_true,if_pos I,zj];by_cases B:c=48
   ·subst B;rw[if_pos (show(((48:UInt8).toNat:Nat):Int)=48 from rfl),if_neg (fun e=>e rfl),zb];by_cases O:s.uC=5
    ·obtain⟨n,sc,sg,j⟩:=zph h.chk O;obtain⟨r,Y,S⟩:=zi1 hN j h.chk zCo;have Y:edT s n false (zdP zD n sc)=some r:=Y;have S:Wl N (Decimal.mk false [48] 0) s=some (r,0):=S;rw[if_pos O,if_pos O,zCH,zc,S,zc,j.nat.1,j.nat.2,Y];rfl
    ·have H:s.uC=4:=oM
     obtain⟨n,U⟩:=zkc h.chk H h.u0;have S:znL N (Decimal.mk false [48] 0) s=some (zq1 s n zD):=zsK hN U h.chk h.pic zCo;rw[if_neg O,if_neg O,zCH,zc,S,zc,U.nat]
   ·have:¬(((c.toNat:Nat):Int)=48):=fun e=>B ((Ju c 48 dE).1 e)
    rw[if_neg this,if_pos B]
  |false=>
   have I:=of_decide_eq_false I.symm;rw[cond_false,if_neg I,zb];by_cases J:s.uC=3
   ·have hk:=zEH h.chk J;have hzz:=h.zl oM;rw[if_pos J,if_pos J,zoJ c oM,zc,zzd oM h.pic _ (fun _=>by have:=h.siz;omega),if_neg (fun e=>e hk),zc]
   ·rw[if_neg J,if_neg J,h.siz,zoJ c oM,zc,clip_is,zc,mV]
 unfold Y0;rw[ZY oM h.pic,h.chk,zc,decide_eq_true rfl,uAf,cond_false,zb];by_cases H:s.uC=4
 ·rw[if_pos H];exact Z _ (decide_eq_decide.2 ⟨fun e=>.inl e,fun _=>H⟩)
 ·rw[if_neg H];exact Z _ (decide_eq_decide.2 ⟨fun e=>.inr e,fun e=>by rcases e with e|e;exact absurd e H;exact e⟩)
theorem zsN:∀(p b:uAU),(txt p b).length=p.length
 |[],_=>rfl
 |c::p,b=>by unfold txt;split<;>rw[mM,mM,zsN p]
theorem zE7(n sc:Nat):zdP zD n sc=0:=by
 unfold zdP zD;have:quo (val (Decimal.mk false [48] 0).uA) (Decimal.mk false [48] 0).uB.toNat (sc:Int)=0:=by unfold quo;rw[show val (Decimal.mk false [48] 0).uA=0 from rfl,Nat.zero_mul,Nat.zero_div]
 rw[this,Nat.zero_mod]
theorem zEM(n:Nat){sc:Int}:Jl zD n sc/\quo (val zD.uA) zD.uB.toNat sc=0:=by
 have j:quo (val zD.uA) zD.uB.toNat sc=0:=by unfold quo;rw[show val zD.uA=0 from rfl,Nat.zero_mul,Nat.zero_div]
 refine⟨⟨?_,?_⟩,j⟩
 ·unfold exact;rw[show val zD.uA=0 from rfl,Nat.zero_mod]
 ·rw[j];exact pow_pos n
theorem zDB{s:Shape}{z:Nat}(h:MS s z)(S:s.uC=3->z=s.uD.length){c:UInt8}(hc:¬((s.uC=4\/s.uC=5)/\c≠48)):(rpV s c).2=0/\(rpV s c).1.length=z:=by
 have O:s.uE.toNat=z:=by have:=h.siz;omega
 unfold rpV;by_cases B:s.uC=4\/s.uC=5
 ·rw[if_pos B,if_neg (fun e=>hc ⟨B,e⟩)];by_cases I:s.uC=5
  ·obtain⟨n,sc,sg,j⟩:=zph h.chk I;obtain⟨r,J,e2⟩:=zpk j false 0;rw[if_pos I,j.nat.1,j.nat.2,zE7,J];refine⟨rfl,?_⟩;show r.length=z;have:=h.siz;omega
  ·have Y:s.uC=4:=oM
   obtain⟨n,H⟩:=zkc h.chk Y h.u0;obtain⟨Z,U⟩:=zEM n (sc:=s.uB);rw[if_neg I,H.nat];unfold zq1;rw[if_pos Z,U];refine⟨rfl,?_⟩;show(wr s n (false&&s.uG) (fmt n 0)).length=z;rw[(zoj H (jZ n 0) (zM n 0) (fun e=>by cases e)).2,h.sz4 H]
 ·rw[if_neg B];by_cases c3:s.uC=3
  ·rw[if_pos c3];exact⟨rfl,by rw[zsN];exact (S c3).symm⟩
  ·rw[if_neg c3];exact⟨rfl,by rw[mK,O]⟩
theorem zqs{t:Shape}{z:Nat}(h:MS t z)(J:t.uC=4\/t.uC=5){d:Decimal}(_:VD d):(zlg t d).2=0/\(zlg t d).1.length=z:=by
 unfold zlg;by_cases H:t.uC=5
 ·obtain⟨n,sc,sg,j⟩:=zph h.chk H;obtain⟨r,I,S⟩:=zpk j d.uI (zdP d n sc);rw[if_pos H,j.nat.1,j.nat.2,I];have:=h.siz;exact⟨rfl,by show r.length=z;omega⟩
 ·have O:t.uC=4:=oM
  obtain⟨n,B⟩:=zkc h.chk O h.u0;have hv:=qX n _ (zBG d n t.uB);rw[if_neg H,B.nat];refine⟨rfl,?_⟩;show(wr t n (zxY t n d) (fmt n (zBH d n t.uB))).length=z;rw[(zoj B (jZ _ _) (zM _ _) (fun e=>by unfold zxY at e;simp only[mF,decide_eq_true_eq]at e;exact⟨e.2,by rw[hv];exact e.1.2⟩)).2,h.sz4 B]
theorem zu1{t:Shape}{z:Nat}(h:MS t z)(S:t.uC=4\/t.uC=5){r:uAU}(O:r.length=z):(ztE t r).2=0\/(ztE t r).2=15:=by
 unfold ztE;by_cases I:t.uC=4
 ·obtain⟨n,H⟩:=zkc h.chk I h.u0;rw[if_pos I,H.nat];have j:ZC t n r=if(rd t n r).2=true then((rd t n r).1,0)else(digits.mk false [],15):=by unfold ZC;rw[if_pos (by rw[O,h.sz4 H])]
  unfold Ji;by_cases hk:(rd t n r).2=true
  ·rw[if_pos hk]at j;rw[j,if_pos rfl];exact .inl rfl
  ·rw[if_neg hk]at j;rw[j,if_neg (fun e=>by cases e)];exact .inr rfl
 ·have J:t.uC=5:=oM
  obtain⟨n,sc,sg,B⟩:=zph h.chk J;rw[if_neg I,if_pos J,B.nat.1,B.nat.2];unfold zCK;rw[if_neg (by have:=h.siz;omega)];split
  ·exact .inl rfl
  ·split
   ·exact .inl rfl
   ·exact .inr rfl
theorem zo2(ng j:Bool)(q:Nat)(sc:Int):(grD ng q sc).uA=(grD j q sc).uA/\(grD ng q sc).uB=(grD j q sc).uB:=by unfold grD jS canon;split<;>exact⟨rfl,rfl⟩
theorem zo1{N:Nat}(hN:3000<N){s:Shape}{z:Nat}(h:MS s z){d:Decimal}(O:VD d)(hg:Gr d s.uB)(hc:(∃n,NS s n)\/∃n sc sg,ES s n sc sg):
  ∃S low b,zho N d s.uA s.uB=some (S,0)/\zlw N d s.uA s.uB=some (low,0)/\b.length=z/\((∃n sc sg,ES s n sc sg)->Wl N low s=some (b,0))/\
   ((∃n,NS s n)->znL N low s=some (b,0)/\∃r,znP N (fld s b)=some (r,0)/\r.uI=(low.uI&&s.uG)/\r.uA=low.uA/\r.uB=low.uB):=by
 rcases hc with⟨n,j⟩|⟨n,sc,sg,j⟩
 ·have Z:=j.sc1;have h2:=j.sc2;have H:=j.n18;have hx:=(zcJ O oM oM).1 hg;have J:quo (val d.uA) d.uB.toNat s.uB%10^n<10^n:=Nat.mod_lt _ (pow_pos n);have Y:=zwR hN O j.n1 H Z h2 hx;generalize quo (val d.uA) d.uB.toNat s.uB%10^n=q at J Y;have I:=zya (ng:=d.uI) J H Z h2;have hp:=zsK hN j h.chk h.pic I;rw[zxz s d.uI J Z h2]at hp;have U:((d.uI&&decide (q≠0))&&s.uG)=true->s.uG=true/\val (fmt n q)≠0:=by intro e;simp only[mF,decide_eq_true_eq]at e;rw[qX n _ J];exact⟨e.2,e.1.2⟩
  have hw:=(zoj j (jZ n q) (zM n q) U).2;have hz:=h.sz4 j;have h300:=zsS j;have hget:=zsL hN j h.chk h.pic (b:=wr s n ((d.uI&&decide (q≠0))&&s.uG) (fmt n q)) oM;rw[zBR j (jZ n q) (zM n q) U]at hget;have e:zl0 s ((d.uI&&decide (q≠0))&&s.uG) (fmt n q)=grD ((d.uI&&decide (q≠0))&&s.uG) q s.uB:=by unfold zl0 grD;rw[qX n _ J]
  rw[e]at hget;rw[j.dig];refine⟨_,_,_,zhn hN O j.n1 oM oM oM,Y,oM,?_,fun _=>⟨hp,_,hget,?_,(zo2 _ _ _ _).1,(zo2 _ _ _ _).2⟩⟩
  ·rintro⟨n',sc',sg',h'⟩;have h5:=h'.cat;have h4:=j.cat;omega
  ·rw[zmw,zmw];cases d.uI<;>cases s.uG<;>simp
 ·have H:=j.n18;have hsc:=j.scl;have hscn:=j.scn;have hx:=(zcJ O oM oM).1 hg;have J:quo (val d.uA) d.uB.toNat s.uB%10^n<10^n:=Nat.mod_lt _ (pow_pos n);have Y:=zwR hN O j.n1 H oM oM hx;generalize quo (val d.uA) d.uB.toNat s.uB%10^n=q at J Y;have I:=zya (ng:=d.uI) J H (sc:=s.uB) oM oM;obtain⟨r,e1,e2⟩:=zi1 hN j h.chk I;have B:=(zqs h (.inr j.cat) I).2;unfold zlg at B;rw[if_pos j.cat,j.nat.1,j.nat.2,e1]at B;rw[j.dig];refine⟨_,_,r,zhn hN O j.n1 oM oM oM,Y,B,fun _=>e2,?_⟩;rintro⟨n',h'⟩;have h5:=j.cat;have h4:=h'.cat;omega
theorem zb9{N:Nat}(_:3000<N){s:Shape}{z:Nat}(_:MS s z){d:Decimal}{B:Bool}{low:Decimal}{b:uAU}(j:Bool)
  (I:zho N d s.uA s.uB=some (B,0)) (S:zlw N d s.uA s.uB=some (low,0)) (hc:(∃n,NS s n)\/∃n sc sg,ES s n sc sg)
  (O:(∃n sc sg,ES s n sc sg)->Wl N low s=some (b,0)) (J:(∃n,NS s n)->znL N low s=some (b,0)):QL N j s d=some (b,(j||!B),0):=by
 unfold QL;rw[I,zc,S,zc,zb];rcases hc with hc|hc
 ·obtain⟨n,H⟩:=id hc;have U:=H.cat;rw[if_neg oM];unfold Vd;rw[J hc,zc];cases j<;>rfl
 ·obtain⟨n,sc,sg,H⟩:=id hc;rw[if_pos H.cat];unfold zdw;rw[O hc,zc];cases j<;>rfl
theorem zuG{N:Nat}(hN:3000<N){s:Shape}{z n:Nat}(j:MS s z)(I:NS s n){d:Decimal}(H:VD d):∃r,zhg N d s 0=some r:=by
 have hc:(∃n,NS s n)\/∃n sc sg,ES s n sc sg:=.inl ⟨n,I⟩;have h1:=I.sc1;have h2:=I.sc2;have h4:=I.cat;obtain⟨near,e,hr,U⟩:=zuL (N:=N) hN H h1 h2 (m:=0) dE;obtain⟨t,ht⟩:=zyJ (N:=N) hN H (s:=s.uB) oM oM;obtain⟨c1,c2,_⟩:=zpD H (s:=s.uB) oM oM;have Z:=(zcJ c1 oM oM).2 c2;have hk:∃r,QM N 0 d s=some r:=by
  unfold QM;rw[hr,zc];dsimp only;by_cases J:e=0
  ·obtain⟨g1,g2⟩:=U J;obtain⟨B,low,b,f1,S,f3,Y,O⟩:=zo1 (N:=N) hN j g1 g2 hc;rw[decide_eq_true J];exact⟨_,zb9 hN j false f1 S hc Y (fun h=>(O h).1)⟩
  ·obtain⟨B,low,b,f1,S,f3,Y,O⟩:=zo1 (N:=N) hN j c1 Z hc;rw[decide_eq_false J,ht,zc];exact⟨_,zb9 hN j true f1 S hc Y (fun h=>(O h).1)⟩
 obtain⟨r,hk⟩:=hk;refine⟨r,?_⟩;unfold zhg;rw[ZU hN (by have:=H.2.2.1;omega),if_pos H,zc];show bnd (JG N s) _=_;rw[ZY oM j.pic,j.chk,zc];show JX N 0 (decide ((7:Int)<0)) d s=_;unfold JX;rw[decide_eq_false oM,cond_false,zj,if_pos h4,hk]
def sp(c:UInt8):Bool:=([32]:uAU).contains c
theorem zvo{s:Shape}{n:Nat}(h:NS s n)(hs:s.uB<=0){b:uAU}(H:(Ji s n b).2=0):
  Jl (Ji s n b).1 (zhO s) 0/\(Ji s n b).1.uA.length<=zhO s/\
  List.replicate (zhO s-(Ji s n b).1.uA.length) 48++(Ji s n b).1.uA=fmt (zhO s) (quo (val (Ji s n b).1.uA) (Ji s n b).1.uB.toNat 0):=by
 have h1:=h.n1;have U:=h.n18;have hsc:=h.sc1;have I:zhO s=n+(-s.uB).toNat:=by unfold zhO;rw[h.nat]
 unfold Ji at H⊢;by_cases B:(ZC s n b).2=0
 ·rw[if_pos B];obtain⟨r1,Y,r3⟩:=za9 h B;rw[r3];obtain⟨S,J⟩:=zlt h r1 Y;dsimp only;generalize hx:(rd s n b).1.s=x at S J;generalize (rd s n b).1.neg=ng;have hv:val x*10^(-s.uB).toNat<10^zhO s:=by rw[I,Nat.pow_add];have:=jv S;rw[J]at this;exact Nat.mul_lt_mul_of_pos_right this (pow_pos _)
  generalize hV:val x*10^(-s.uB).toNat=v at hv;have hz:s.uB.toNat=0:=oM
  have j:zl0 s ng x=jS (canon ng v 0):=by unfold zl0;rw[hV,hz]
  rw[j];have Z:(canon ng v 0).2.2=0:=by have:=ji ng v 0;omega
  have cv:val (canon ng v 0).2.1=v:=by have:=XB ng v 0;rw[Z,Nat.pow_zero,mX,mX]at this;exact this
  have cl:(canon ng v 0).2.1.length<=zhO s:=qh oM hv;have cs:(jS (canon ng v 0)).uB.toNat=0:=by show(((canon ng v 0).2.2:Nat):Int).toNat=0;omega
  show Jl (jS (canon ng v 0)) _ _/\(canon ng v 0).2.1.length<=_/\List.replicate (zhO s-(canon ng v 0).2.1.length) 48++(canon ng v 0).2.1=fmt (zhO s) (quo (val (canon ng v 0).2.1) (jS (canon ng v 0)).uB.toNat 0);have O:quo (val (canon ng v 0).2.1) (jS (canon ng v 0)).uB.toNat 0=v:=by rw[cs,cv];unfold quo;show v*10^0/10^0=v;simp
  refine⟨⟨?_,?_⟩,cl,?_⟩
  ·show exact (val (canon ng v 0).2.1) (jS (canon ng v 0)).uB.toNat 0;rw[cs];unfold exact;show _%10^0=0;rw[Nat.pow_zero,Nat.mod_one]
  ·show quo (val (canon ng v 0).2.1) (jS (canon ng v 0)).uB.toNat 0<_;rw[O];exact hv
  ·rw[O];refine zrF (Digs.append.2 ⟨Digs.zeros _,ziG _ _ _⟩) (by rw[mO,mK];omega) ?_;rw[yW,cv]
 ·rw[if_neg B]at H;exact absurd H B
section
theorem zj9:∀(l:uAU)(acc k:Nat),Digs l->acc<10^k->k+l.length<=18->∃u,Lib.parseUintM 18446744073709551615 acc l=.ok u/\u<10^(k+l.length)
 |[],acc,k,_,h,_=>⟨acc,rfl,h⟩
 |c::r,acc,k,hd,h,hl=>by
  rw[mM]at hl;obtain⟨hc,j⟩:=mS.1 hd;have I:10^k<=10^17:=Nat.pow_le_pow_right dE oM;have hb:acc*10+(c.toNat-48)<10^(k+1):=by rw[Nat.pow_succ];omega
  obtain⟨u,B,H⟩:=zj9 r (acc*10+(c.toNat-48)) (k+1) j hb oM;refine⟨u,?_,by rw[mM,show k+(r.length+1)=k+1+r.length by omega];exact H⟩;show(if 48<=c.toNat/\c.toNat<=57 then(if 1844674407370955162<=acc then _ else if 18446744073709551615<acc*10+(c.toNat-48)then _ else Lib.parseUintM 18446744073709551615 (acc*10+(c.toNat-48)) r)else _)=_;rw[if_pos hc,if_neg oM,if_neg oM,B]
theorem zuU{l:uAU}(H:Digs l)(B:l≠[])(J:l.length<=18):∃u,Lib.parseUintB 64 l=.ok u/\u<1000000000000000000:=by
 obtain⟨u,j,I⟩:=zj9 l 0 0 H dE oM;refine⟨u,?_,?_⟩
 ·show(if l=[]then _ else Lib.parseUintM 18446744073709551615 0 l)=_;rw[if_neg B,j]
 ·have:10^(0+l.length)<=10^18:=Nat.pow_le_pow_right dE oM;omega
theorem zvM{N:Nat}(hN:3000<N){d:Decimal}(j:VD d)(H:d.uB=0)(I:d.uA.length<=18):∃n:Int,zd7 N d=some (n,0)/\ -1000000000000000000<n/\n<1000000000000000000:=by
 obtain⟨u,B,J⟩:=zuU j.2.1 j.1 I;unfold zd7;rw[ZU hN oM,if_pos j,zc,decide_eq_true rfl,uAf,cond_false,H,decide_eq_false dE,cond_false];cases d.uI with
 |true=>
  refine⟨-(u:Int),?_,oM,oM⟩;rw[cond_true,zN (by simp;omega),za];unfold Xv WY;rw[decide_eq_true (by simp;omega),decide_eq_true rfl,decide_eq_true rfl];have e:Lib.parseIntB 64 ([45]++d.uA)=.ok (-(u:Int)):=by show Lib.parseIntB 64 (45::d.uA)=_;rw[Lib.parseIntB_minus,B];show(if 2^(64-1)<u then _ else _)=_;rw[if_neg (by simp;omega)]
  rw[e];rfl
 |false=>
  refine⟨(u:Int),?_,oM,oM⟩;rw[cond_false];unfold Xv WY;rw[decide_eq_true oM,decide_eq_true rfl,decide_eq_true rfl];have e:Lib.parseIntB 64 d.uA=.ok (u:Int):=by
   cases hd':d.uA with
   |nil=>exact absurd hd' j.1
   |cons c r=>have hc:=j.2.1;rw[hd']at hc B;have hc:=(mS.1 hc).1;rw[Lib.parseIntB_plain 64 c r oM oM,B];show(if 2^(64-1)<=u then _ else _)=_;rw[if_neg (by simp;omega)]
  rw[e];rfl
theorem zEl{l:uAU}(j:Digs l)(H:tz l=l)(I:1<=val l)(B:l.length<=62):VD (Decimal.mk false l 0):=by
 have e:canon false (val l) 0=(false,l,0):=by unfold canon;rw[if_neg oM];show(false,dstr (val l),0)=_;rw[zir j,H]
 have h:=VD.of (neg:=false) (v:=val l) (s:=0) (by rw[e];exact B) (by rw[e];exact uAm _);rw[e]at h;exact h
theorem zFe:∀(n u:Nat),u<10^(n+1)->1<=u->∃d r,Lib.decDigits u=d::r/\49<=d.toNat/\Digs (d::r)/\(d::r).length<=n+1:=by
 have one:∀v:Nat,v<10->(UInt8.ofNat (48+v)).toNat=48+v:=fun v hv=>by rw[UInt8.toNat_ofNat'];exact nV oM
 have j:∀(n u:Nat),u<10->1<=u->∃d r,Lib.decDigits u=d::r/\49<=d.toNat/\Digs (d::r)/\(d::r).length<=n+1:=fun n u h H=>by
  refine⟨UInt8.ofNat (48+u),[],?_,?_,?_,sI⟩
  ·rw[Lib.decDigits,dif_pos h]
  ·rw[one u h];omega
  ·intro c hc;rw[mL]at hc;subst hc;rw[one u h];omega
 intro n;induction n with
 |zero=>intro u h H;exact j 0 u (by simpa using h) H
 |succ n O=>
  intro u h H;by_cases B:u<10
  ·exact j (n+1) u B H
  ·obtain⟨d,r,I,J,U,S⟩:=O (u/10) (by rw[Nat.pow_succ]at h;omega) oM;refine⟨d,r++[UInt8.ofNat (48+u%10)],?_,J,?_,?_⟩
   ·rw[Lib.decDigits,dif_neg B,I];rfl
   ·intro c hc;have hc:c∈(d::r)++[UInt8.ofNat (48+u%10)]:=hc;rcases mU.1 hc with hc|hc
    ·exact U c hc
    ·rw[mL]at hc;subst hc;rw[one _ oM];omega
   ·simp only[mM,mO,uAO]at S⊢;omega
theorem zr8(N:Nat){k:Nat}(I:1<=k)(hk:k<403):∃d,zr9 N (k:Int)=some d/\VD d:=by
 obtain⟨d,r,J,H,S,Z⟩:=zFe 2 k oM I;have hi:Lib.itoa (k:Int)=d::r:=by unfold Lib.itoa;rw[if_neg oM,mV,J]
 have U:d≠48:=fun h=>by subst h;exact absurd H dE
 have B:d≠45:=fun h=>by subst h;exact absurd H dE
 have Y:tz (d::r)=d::r:=by rw[zb5,if_neg U]
 have hv:1<=val (d::r):=by rw[jO];have:1<=(d.toNat-48)*10^r.length:=Nat.mul_pos oM (Nat.pow_pos dE);omega
 refine⟨_,?_,zEl S Y hv oM⟩;unfold zr9 zbq YD;rw[decide_eq_true rfl,decide_eq_true oM,decide_eq_true oM];show bnd (some (Lib.itoa (k:Int))) _=_;rw[hi,zc,zc];have hp:Lib.hasPrefix (d::r) [45]=false:=by
  have j:((45:UInt8)==d)=false:=by simpa using fun h:(45:UInt8)=d=>B h.symm
  show(((45:UInt8)==d)&&List.isPrefixOf [] r)=false;rw[j];rfl
 have O:Lib.trimPrefix (d::r) [45]=d::r:=by simp[Lib.trimPrefix,hp]
 rw[hp,O]
section
variable {N : Nat} (hN : 3000 < N) {s t : Shape} {z z' : Nat} (h : MS s z) (h' : MS t z') {b c : uAU} (hb : b.length = z) (hc : c.length = z')
include hN
theorem zEV:JG N shA=some 0:=by rw[ZY oM dE];exact congrArg some kR
theorem zjR{n:Nat}(H:NS t n){k:Nat}(j:1<=k)(hk:k<403)(h':MS t z')(q:Option (Bool×Int)):za5 N (fld t c) (k:Int) q=q:=by obtain⟨d,B,J⟩:=zr8 N j hk;obtain⟨r,I⟩:=zuG hN h' H J;unfold za5;rw[B,zc];show bnd (zhg N d t 0) _=_;rw[I,zc]
theorem zwq{n:Nat}(B:NS t n)(h':MS t z'){k:Int}(S:1<=k)(O:k<=(b.length:Int))(U:b.length<=400):zwr N (fld s b) (fld t c) k=some (false,0):=by
 have j:min 1 ((b.length:Int)-0-(k-1)).toNat=1:=oM
 have H:Nat.ble b.length 1000000000000=true:=mY oM;have J:(zk 0 (b.length:Int) b.length&&decide ((b.length:Int)=(b.length:Int)))=true:=by rw[zt.2 ⟨oM,oM,oM⟩,decide_eq_true rfl];rfl
 have c2:(decide (0<=k-1)&&decide (k-1<=(b.length:Int)-0)&&decide ((b.length:Int)-0<=(b.length:Int)-0))=true:=by rw[decide_eq_true oM,decide_eq_true oM,decide_eq_true oM];rfl
 have I:k-1+((1:Nat):Int)+1=((k.toNat+1:Nat):Int):=oM
 unfold zwr zc5;show bnd (chk (Nat.ble b.length 1000000000000) (some b)) _=_;rw[H,za,zc,J,za,c2,za,j,zh oM oM,za,decide_eq_false oM,cond_false,zh oM oM,za,I];exact zjR hN B oM oM h' _
include h h' hb hc
theorem zsR(q:Option (Bool×Int)):zzm N (fld s b) (fld t c) q=q:=by unfold zzm;show bnd (JG N s) (fun r=>cond _ _ (bnd (JG N t) fun r=>cond _ _ (cond (!decide ((b.length:Int)=s.uE)) _ (cond (!decide ((c.length:Int)=t.uE)) _ _))))=_;rw[ZY oM h.pic,h.chk,zc,zj,if_pos rfl,ZY oM h'.pic,h'.chk,zc,zj,if_pos rfl,zj,if_pos (by rw[hb,h.siz]),zj,if_pos (by rw[hc,h'.siz])]
def zeD(s:Shape):Bool:=decide (s.uC=0)||(decide (s.uC=1)||decide (s.uC=2))
def Q6(t:Shape):Bool:=decide (t.uC=4)&&decide (t.uB=0)
theorem zC7:zuu N (fld s b) (fld t c)=cond (zeD s) (cond (Q6 t) (zjQ N (fld s b) (fld t c)) (some (false,12))) (some (false,12)):=by
 unfold zuu;rw[zEV hN,zc,decide_eq_true rfl,uAf,cond_false,zsR hN h h' hb hc];have e:znW N (fld s b) (fld t c)=cond (Q6 t) (zjQ N (fld s b) (fld t c)) (some (false,12)):=by unfold znW Q6;show cond (decide (t.uC=4)) (cond (!decide (t.uB=0)) _ _) _=_;by_cases I:t.uC=4<;>by_cases j:t.uB=0<;>simp[I,j]
 rw[e];unfold zeD;show cond (!decide (s.uC=0)) (cond (!decide (s.uC=1)) (cond (!decide (s.uC=2)) _ _) _) _=_;by_cases j:s.uC=0<;>by_cases B:s.uC=1<;>by_cases H:s.uC=2<;>simp[j,B,H]
theorem zC5(_:s.uC<=5):∃ov,zwp N (fld s b) (fld t c)=some (ov,if(decide (s.uC=4)||(decide (s.uC=5)||!Q6 t))=true then 12 else 0):=by
 have hv:∀q:Option (Bool×Int),cond (decide (t.uC=4)) (cond (!decide (t.uB=0)) (some (false,12)) q) (some (false,12))=cond (Q6 t) q (some (false,12)):=fun q=>by unfold Q6;by_cases j:t.uC=4<;>by_cases U:t.uB=0<;>simp[j,U]
 unfold zwp;rw[zEV hN,zc,decide_eq_true rfl,uAf,cond_false,zc,decide_eq_true rfl,uAf,cond_false,zsR hN h h' hb hc];show∃ov,cond (decide (s.uC=4)) _ (cond (decide (s.uC=5)) _ (cond (decide (t.uC=4)) (cond (!decide (t.uB=0)) _ _) _))=_;rw[hv];by_cases j:s.uC=4
 ·rw[decide_eq_true j,cond_true,Bool.true_or,if_pos rfl];exact⟨_,rfl⟩
 ·rw[decide_eq_false j,cond_false,Bool.false_or];by_cases H:s.uC=5
  ·rw[decide_eq_true H,cond_true,Bool.true_or,if_pos rfl];exact⟨_,rfl⟩
  ·rw[decide_eq_false H,cond_false,Bool.false_or];cases hi:Q6 t with
   |false=>rw[cond_false,uAS,if_pos rfl];exact⟨_,rfl⟩
   |true=>
    rw[cond_true,uAf,if_neg dE];unfold Q6 at hi;simp only[mF,decide_eq_true_eq]at hi;obtain⟨n,S⟩:=zkc h'.chk hi.1 h'.u0;have O:∃r,Y0 N 32 s=some r/\r.2=0:=by
     refine⟨rpV s 32,zrn (N:=N) hN h 32,?_⟩;by_cases J:s.uC=3
     ·unfold rpV;rw[if_neg oM,if_pos J]
     ·exact (zDB h (fun e=>absurd e J) (fun e=>oM)).1
    obtain⟨r,I,B⟩:=O;unfold zCu;show∃ov,cond (decide (s.uC=4)) _ (cond (decide (s.uC=5)) _ (bnd (Y0 N 32 s) _))=_;rw[decide_eq_false j,cond_false,decide_eq_false H,cond_false,I,zc,B,decide_eq_true rfl,uAf,cond_false];exact⟨false,zjR hN S (k:=1) dE dE h' _⟩
theorem zC6(hz:z<=400)(hi:Q6 t=true):∃d e,znP N (fld t c)=some (d,e)/\((e=15/\∃ov,zjQ N (fld s b) (fld t c)=some (ov,15))\/
  (e=0/\∃k,zd7 N d=some (k,0)/\zjQ N (fld s b) (fld t c)=some (!(decide (1<=k)&&decide (k<=s.uE)),0))):=by
 unfold Q6 at hi;simp only[mF,decide_eq_true_eq]at hi;obtain⟨n,j⟩:=zkc h'.chk hi.1 h'.u0;have h1:=j.n1;have h18:=j.n18;have I:=zsS j;rw[<-h'.sz4 j]at I;have Y:=zsL hN j h'.chk h'.pic (b:=c) oM;refine⟨(Ji t n c).1,(Ji t n c).2,Y,?_⟩;unfold zjQ;rw[Y,zc];have Z:(Ji t n c).2=0\/(Ji t n c).2=15:=by have:=zu1 h' (.inl hi.1) hc;unfold ztE at this;rw[if_pos hi.1,j.nat]at this;exact this
 by_cases B:(Ji t n c).2=0
 ·right;refine⟨B,?_⟩;obtain⟨f1,f2,f3⟩:=zvo j oM B;have hl:(Ji t n c).1.uA.length<=18:=by refine nD f2 ?_;unfold zhO;rw[j.nat];omega
  have S:(Ji t n c).1.uB=0:=by
   unfold Ji at B⊢;split
   ·rename_i hr;unfold zl0 jS;dsimp only;have:=ji (ZC t n c).1.neg (val (ZC t n c).1.s*10^(-t.uB).toNat) t.uB.toNat;omega
   ·rfl
  obtain⟨k,U,k2,k3⟩:=zvM hN (zBS j B) S hl;refine⟨k,U,?_⟩;rw[B,decide_eq_true rfl,uAf,cond_false,U,zc];dsimp only;rw[decide_eq_true rfl,uAf,cond_false,zh oM oM,za];show cond (decide (1<=k)) (cond (!decide (k<=(b.length:Int))) _ _) _=_;have hsz:=h.siz;by_cases J:1<=k
  ·rw[decide_eq_true J,cond_true,uAi];by_cases O:k<=(b.length:Int)
   ·rw[decide_eq_true O,uAf,cond_false,decide_eq_true (show k<=s.uE by omega)];exact zwq hN j h' J O oM
   ·rw[decide_eq_false O,uAS,cond_true,decide_eq_false (show¬k<=s.uE by omega)];rfl
  ·rw[decide_eq_false J,cond_false,Bool.false_and];rfl
 ·left;have H:(Ji t n c).2=15:=Z.resolve_left B;refine⟨H,?_⟩;rw[H,decide_eq_false dE,uAS,cond_true,cond_true];exact⟨_,rfl⟩
end
theorem zjp(x y:F_64)(a:Int)(hx:FX x)(hy:FX y)(h0:0<=a/\a<=255):∃N,Zj N x y a=some true:=by
 refine⟨4000,?_⟩;obtain⟨s,z,b,_,h,hz,_,hF,hb⟩:=zzb (N:=4000) dE hx;obtain⟨t,z',c,_,h',_,_,hF',Z⟩:=zzb (N:=4000) dE hy;have k0:∀B:uAU,B.length=z'->Jg 4000 s.uC s.uH s.uD s.uA s.uB s.uG s.uK s.uL s.uM s.uJ s.uE t.uC t.uH t.uD t.uA t.uB t.uG t.uK t.uL t.uM t.uJ t.uE b B=some true:=by
  intro B O;have S:=zC7 (N:=4000) dE h h' hb O;obtain⟨ov,g2⟩:=zC5 (N:=4000) dE h h' hb O h.c5;obtain⟨j,g,hg,hg12,J⟩:∃j g,zuu 4000 (fld s b) (fld t B)=some (j,g)/\decide (g=12)=(!zeD s||!Q6 t)/\
    ∀(u1 u2:Int),jz 4000 j g s.uC s.uH s.uD s.uA s.uB s.uG s.uK s.uL s.uM s.uJ s.uE t.uC t.uH t.uD t.uA t.uB t.uG t.uK t.uL t.uM t.uJ t.uE b B=some true:=by
   cases hl:zeD s with
   |false=>rw[hl,cond_false]at S;refine⟨false,12,S,sI,fun _ _=>?_⟩;unfold jz;rfl
   |true=>
    cases hi:Q6 t with
    |false=>rw[hl,cond_true,hi,cond_false]at S;refine⟨false,12,S,sI,fun _ _=>?_⟩;unfold jz;rfl
    |true=>
     rw[hl,cond_true,hi,cond_true]at S;obtain⟨d,e,f1,f2⟩:=zC6 (N:=4000) dE h h' hb O hz hi;have f1:znP 4000 (Field.mk t.uC t.uH t.uD t.uA t.uB t.uG t.uK t.uL t.uM t.uJ t.uE B)=some (d,e):=f1;rcases f2 with⟨rfl,ov,f3⟩|⟨rfl,k,f3,f4⟩
     ·refine⟨ov,15,S.trans f3,sI,fun _ _=>?_⟩;unfold jz;rw[f1,zc];rfl
     ·refine⟨_,0,S.trans f4,sI,fun _ _=>?_⟩;unfold jz;rw[f1,zc];dsimp only;rw[f3,zc];by_cases U:1<=k<;>by_cases q2:k<=s.uE<;>simp[U,q2]
  have hu:decide ((if(decide (s.uC=4)||(decide (s.uC=5)||!Q6 t))=true then(12:Int)else 0)=12)=(decide (s.uC=4)||(decide (s.uC=5)||!Q6 t)):=by
   split
   ·rename_i e;rw[e];rfl
   ·rename_i e;simp only[Bool.not_eq_true]at e;rw[e];rfl
  have k2:∀lt H:Bool,lt=zeD s->H=Q6 t->qN 4000 j g (if(decide (s.uC=4)||(decide (s.uC=5)||!Q6 t))=true then(12:Int)else 0) H lt s.uC s.uH s.uD s.uA s.uB s.uG s.uK s.uL s.uM s.uJ s.uE t.uC t.uH t.uD t.uA t.uB t.uG t.uK t.uL t.uM t.uJ t.uE b B=some true:=by intro lt H e1 e2;unfold qN;rw[J 0 0,hg12,hu,<-e1,<-e2];cases lt<;>cases H<;>by_cases Y:s.uC=4<;>by_cases q5:s.uC=5<;>simp[Y,q5]
  have k1:∀H:Bool,H=Q6 t->Jf 4000 j g (if(decide (s.uC=4)||(decide (s.uC=5)||!Q6 t))=true then(12:Int)else 0) H s.uC s.uH s.uD s.uA s.uB s.uG s.uK s.uL s.uM s.uJ s.uE t.uC t.uH t.uD t.uA t.uB t.uG t.uK t.uL t.uM t.uJ t.uE b B=some true:=by
   intro H e2;unfold Jf;rw[zb];by_cases q0:s.uC=0
   ·rw[if_pos q0];exact k2 _ _ (by unfold zeD;rw[decide_eq_true q0];rfl) e2
   ·rw[if_neg q0,zb];by_cases U:s.uC=1
    ·rw[if_pos U];exact k2 _ _ (by unfold zeD;rw[decide_eq_true U];simp) e2
    ·rw[if_neg U];exact k2 _ _ (by unfold zeD;rw[decide_eq_false q0,decide_eq_false U];rfl) e2
  unfold Jg;show bnd (zuu 4000 (fld s b) (fld t B)) (fun rr2=>bnd (zwp 4000 (fld s b) (fld t B)) _)=_;rw[hg,zc,g2,zc,zb];by_cases Y:t.uC=4
  ·rw[if_pos Y];exact k1 _ (by unfold Q6;rw[decide_eq_true Y];rfl)
  ·rw[if_neg Y];exact k1 _ (by unfold Q6;rw[decide_eq_false Y];rfl)
 have k4:∀g:Bool,(g=true->0<c.length)->Je 4000 a g s.uC s.uH s.uD s.uA s.uB s.uG s.uK s.uL s.uM s.uJ s.uE t.uC t.uH t.uD t.uA t.uB t.uG t.uK t.uL t.uM t.uJ t.uE b c=some true:=by
  intro g hg;unfold Je;cases g with
  |false=>rw[cond_false];exact k0 c Z
  |true=>
   have hb0:0<(c.length:Int):=by have:=hg rfl;omega
   have hm0:=Int.emod_nonneg a (show(c.length:Int)≠0 by omega);have hm1:=Int.emod_lt_of_pos a hb0;have hi:inIx (a% (c.length:Int)) c.length=true:=zw.2 ⟨hm0,oM⟩;have hn:zf a=true:=decide_eq_true h0.1;have hu:inKb .u8 a=true:=yq.2 ⟨by show(0:Int)<=a;omega,by show a<=255;omega⟩;rw[cond_true,zh oM oM,za,hn,decide_eq_true hb0,uAi,za,hi,za,hu,uAi,za];exact k0 _ (by rw[List.length_set];exact Z)
 unfold Zj;rw[hF,zc,hF',zc,zb];by_cases I:128<=a
 ·rw[if_pos I];exact k4 (decide (0<(c.length:Int))) (fun e=>by have:=of_decide_eq_true e;omega)
 ·rw[if_neg I];exact k4 false (fun e=>by cases e)
end
end Go.Proofs.C06
