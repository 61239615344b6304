/-
  A part of the proof of the laws.
-/
import Derived.Test.YthajckhlgoonbaaGreatDoorS7
import Derived.Test.YthajckhlgoonbaaGreatDoorUa
import Derived.Test.YthajckhlgoonbaaGreatDoorEc
import Derived.Test.YthajckhlgoonbaaGreatDoorUd
import Derived.Test.YthajckhlgoonbaaGreatDoorEd
import Derived.Test.YthajckhlgoonbaaGreatDoorEg
import Derived.Test.YthajckhlgoonbaaGreatDoorCi
import Derived.Test.YthajckhlgoonbaaGreatDoorW1
section
set_option maxRecDepth 100000
namespace Go.Proofs.C06
open Go Go.RowKit Go.Vc Go.Am Go.Dg
def fit(b:uBk)(n:Nat)(left:Bool):uBk:=if left=true then List.replicate (n-b.length) 32++b.drop (b.length-n)else b.take n++List.replicate (n-b.length) 32
theorem zxd{n:Nat}(h:n<=100000000):(zi0 1 (n:Int)&&decide ((n:Int)=(n:Int)))=true:=by show((Nat.ble (1*n) 281474976710656&&Nat.ble n 9223372036854775807)&&decide ((n:Int)=(n:Int)))=true;rw[decide_eq_true rfl,uAN,mG,uA4,uA4];omega
end Go.Proofs.C06
end
section
set_option maxRecDepth 100000
namespace Go.Proofs.C06
open Go Go.RowKit Go.Vc Go.Am Go.Dg
def cutK(d:Decimal)(s:Int):Nat:=((d.uB.toNat:Int)-s).toNat
end Go.Proofs.C06
end
section
set_option maxRecDepth 100000
namespace Go.Proofs.C06
open Go Go.RowKit Go.Vc Go.Am Go.Dg
structure MS(s:Shape)(z:Nat):Prop where
 chk:chkV s=0
 pic:s.uC.length<=400
 siz:s.uI=(z:Int)
 c0:0<=s.uD
 c5:s.uD<=5
 u0:0<=s.uE
 zle:z<=1048576
 zl:s.uD≠0->z<=400
theorem zmi{s:Shape}(h:chkV s=0):qk s=0:=by
 unfold chkV at h;by_cases hE:qk s=0
 ·exact hE
 ·rw[if_pos hE]at h;exact absurd h hE
theorem zvt{s:Shape}(h:chkV s=0)(hp:s.uC.length<=400)(hc:0<=s.uD)(hu:0<=s.uE):∃z,MS s z:=by
 have hE:=zmi h;have hE':=hE;unfold qk at hE;split at hE
 ·cases hE
 ·rename_i h1;split at hE
  ·cases hE
  ·rename_i h2;split at hE
   ·cases hE
   ·rename_i h3;by_cases h0:s.uD=0
    ·refine⟨s.uI.toNat,h,hp,by omega,hc,by omega,hu,by omega,fun e=>absurd h0 e⟩
    ·have hs:=ztX h h0;have hz:0<=sizeV s/\sizeV s<=400:=by
      unfold sizeV;rw[if_neg h0];split
      ·have:szN s.uC<=s.uC.length:=by unfold szN;omega
       omega
      ·repeat' split
       all_goals omega
     refine⟨s.uI.toNat,h,hp,by omega,hc,by omega,hu,by omega,fun _=>by omega⟩
theorem NS.nat{s:Shape}{n:Nat}(h:NS s n):s.uA.toNat=n:=by have:=h.dig;omega
theorem zjm{s:Shape}{n:Nat}(h:NS s n){b:uBk}(h0:(Ql s n b).2=0):VD (Ql s n b).1:=by
 unfold Ql at h0⊢;by_cases hr:(Kf s n b).2=0
 ·rw[if_pos hr];obtain⟨r1,r2,r3⟩:=zeU h hr;rw[r3];obtain⟨d1,d2⟩:=zoV h r1 r2;exact (zo1 h d1 d2).1
 ·rw[if_neg hr]at h0;exact absurd h0 hr
theorem zis{s:Shape}{n:Nat}(h:NS s n):szV s n<=300:=by
 have:=h.n18;unfold szV binW
 repeat' split
 all_goals omega
theorem MS.sz4{s:Shape}{z n:Nat}(h:MS s z)(hn:NS s n):z=szV s n:=by have h1:=h.siz;have h2:=hn.size;omega
def lenT(s:Shape):Nat:=s.uA.toNat+(-s.uB).toNat
end Go.Proofs.C06
end
section
set_option maxRecDepth 100000
namespace Go.Proofs.C06
open Go Go.RowKit Go.Vc Go.Am Go.Dg
def tx(c:Int)(p:uBk)(just:Bool):Shape:=Shape.mk c 0 p 0 0 false false false just false (p.length:Int)
theorem zo9{c:Int}{p:uBk}(hpar:parS p=(tx c p false,0))(hne:p≠[])(hl:p.length<=80)(hsym:∀x∈p,syms.contains x=true)(hc:1<=c/\c<=3)(hsz:(tx c p false).uI=sizeV (tx c p false)):Good p (tx c p false) where
 par:=hpar
 ne:=hne
 len:=hl
 sym:=hsym
 pic:=rfl
 cat:=by show 1<=c/\c<=5;omega
 use:=rfl
 dig:=by show(0:Int)<=18;decide
 num:=fun h=>by have h:c=4:=h;omega
 sca:=by show(0:Int)<=18;decide
 led:=rfl
 sep:=rfl
 jus:=rfl
 bla:=rfl
 siz:=hsz
theorem zso{m:Nat}(h1:1<=m)(h2:m<=80):Good (List.replicate m 65) (tx 1 (List.replicate m 65) false)/\Good (List.replicate m 88) (tx 2 (List.replicate m 88) false):=by
 have hl:∀c:UInt8,(List.replicate m c).length=m:=fun c=>mN
 have hne:∀c:UInt8,List.replicate m c≠[]:=fun c e=>by have:=congrArg List.length e;rw[hl]at this;simp at this;omega
 have hsz:∀(c:UInt8)(k:Int),c≠86->(k=1\/k=2)->(tx k (List.replicate m c) false).uI=sizeV (tx k (List.replicate m c) false):=fun c k hc hk=>by
  unfold sizeV;rw[if_neg (show¬(tx k (List.replicate m c) false).uD=0 from fun e=>by have e:k=0:=e;omega),if_pos (show(tx k (List.replicate m c) false).uD≠4 from fun e=>by have e:k=4:=e;omega)];unfold szN;show((List.replicate m c).length:Int)=(((List.replicate m c).length-(List.replicate m c).count 86:Nat):Int)
  rw[uAK.2 (fun hm=>hc (uAS hm).symm),Nat.sub_zero]
 have cn:∀(set:uBk)(c:UInt8),set.contains c=true->cnt set (List.replicate m c)=(List.replicate m c).length:=fun set c h=>zcz fun x hx=>by rw[uAS hx];exact h
 refine⟨zo9 ?_ (hne _) (by rw[hl];exact h2) (fun c hc=>by rw[uAS hc];decide) (by decide) (hsz 65 1 (by decide) (.inl rfl)),zo9 ?_ (hne _) (by rw[hl];exact h2) (fun c hc=>by rw[uAS hc];decide) (by decide) (hsz 88 2 (by decide) (.inr rfl))⟩
 ·unfold parS zbT;rw[if_pos (cn [65] 65 (by decide))];rfl
 ·unfold parS zbT;have k1:¬cnt [65] (List.replicate m (88:UInt8))=(List.replicate m (88:UInt8)).length:=by
   obtain⟨k,rfl⟩:∃k,m=k+1:=⟨m-1,by omega⟩
   rw[nM,j9,if_neg (by decide),mK];omega
  have k2:¬(List.replicate m (88:UInt8)).countP zqi=0:=by
   obtain⟨k,rfl⟩:∃k,m=k+1:=⟨m-1,by omega⟩
   rw[nM,List.countP_cons_of_pos (by rfl)];omega
  rw[if_neg k1,if_neg k2,if_pos (cn [65,88,57] 88 (by decide))];rfl
theorem zvo{c:Int}{p:uBk}(hg:Good p (tx c p false))(hc:c=1\/c=2)(just:Bool):MS (tx c p just) p.length:=by
 have hpar:=zhH hg;have hl:=hg.len;have hs:(p.length:Int)=sizeV (tx c p false):=hg.siz;have hs':(p.length:Int)=sizeV (tx c p just):=hs;refine⟨?_,by show p.length<=400;omega,rfl,by show 0<=c;omega,by show c<=5;omega,by show(0:Int)<=0;decide,by omega,fun _=>by omega⟩;have e1:qk (tx c p just)=0:=by unfold qk tx;dsimp only;rw[if_neg (by omega),if_neg (by omega),if_neg (by omega)]
 unfold chkV;rw[if_neg (fun k=>k e1),if_neg (show¬(tx c p just).uD=0 from fun e=>by have e:c=0:=e;omega)];unfold zdt;rw[show(tx c p just).uC=p from rfl,hpar];unfold XO;have n4:c≠4:=by omega
 simp only[tx,ne_eq,not_true_eq_false,if_false,or_self,decide_false,nC,false_and,not_false_eq_true,n4];rw[if_neg (by rintro⟨_,e1,e2⟩;omega)];exact if_pos hs'
def gr(n:Nat):Shape:=Shape.mk 0 0 [] 0 0 false false false false false (n:Int)
theorem zwt{n:Nat}(h:n<=1000):MS (gr n) n:=by
 refine⟨?_,uAw _,rfl,Int.le_refl 0,show(0:Int)<=5 by decide,Int.le_refl 0,by omega,fun e=>absurd rfl e⟩;have e1:qk (gr n)=0:=by unfold qk gr;dsimp only;rw[if_neg (by omega),if_neg (by omega),if_neg (by omega)]
 have e2:zc6 (gr n):=⟨rfl,rfl,rfl,rfl,rfl,rfl,rfl,rfl,rfl⟩
 unfold chkV;rw[if_neg (fun k=>k e1),if_pos (show(gr n).uD=0 from rfl),if_pos e2]
theorem zxK(l:uBk):shT (3::l)=tx 3 (picT (3::l)) false:=by
 unfold shT zf5;rw[if_neg]
 ·rfl
 ·intro h;have:=zjW h 66 (by unfold picT;simp[sy6]);exact absurd this (by decide)
theorem zxx{l:uBk}(hl:l.length<=19):MS (tx 3 (picT (3::l)) false) (picT (3::l)).length:=by have hg:=zql (l:=3::l) (by simpa using hl);rw[zxK]at hg;have:=hg.len;exact⟨zlH hg,by show(picT _).length<=400;omega,rfl,show(0:Int)<=3 by decide,show(3:Int)<=5 by decide,Int.le_refl 0,by omega,fun _=>by omega⟩
structure FX(x:F_64):Prop where
 k0:0<=x.vD
 d0:0<=x.vE
 d1:x.vE<=255
 p0:0<=x.vF
 p1:x.vF<=255
 f0:0<=x.vG
 f1:x.vG<=255
 s0:0<=x.vZ
 o0:0<=x.wA
 w0:0<=x.wC
 m0:0<=x.wD
 n0:0<=x.wE
 t0:0<=x.wF
 a0:0<=x.wG
 ins:∀v∈x.wI,0<=v/\v<=65535
def fF(x:F_64):F:=F.mk x.vE x.vF x.vG x.vK x.wJ
def fE(x:F_64):E:=E.mk x.vZ x.wA x.wC x.wD x.wE x.wF x.wG x.wI x.wL
theorem zbK{N:Nat}{sym:UInt8}{x:F_64}{b1:Shape}{c:Int}{m:Nat}(hm:m<=1000):∀(k i:Nat),i<=m->m-i<k->
  QN N k [sym] (i:Int) x b1 (Shape.mk c 0 (List.replicate i sym) 0 0 false false false false false (m:Int))=some (tx c (List.replicate m sym) x.uM)
 |0,i,_,hk=>by omega
 |k+1,i,hi,hk=>by
  show K2 N (QN N k) [sym] _ x b1 _=_;unfold K2;dsimp only;rw[zb];by_cases h:i<m
  ·rw[if_pos (by omega),Ze (by simp;omega),za,zk (by omega) (by omega),za,<-List.replicate_succ',show(i:Int)+1=((i+1:Nat):Int)by omega];exact zbK hm k (i+1) (by omega) (by omega)
  ·have:i=m:=by omega
   subst this;rw[if_neg (by omega)];unfold tx;rw[mN]
theorem zv1{c:UInt8}:atS ([[88],[65],[57],[66],[48],[47]]:List uBk) ((c.toNat:Int)%6)=[sy6 c]:=by
 unfold atS sy6;rw[show((c.toNat:Int)%6).toNat=c.toNat%6 by omega];have h:c.toNat%6<6:=uA5 _ (by decide);generalize c.toNat%6=j at h;rcases j with _|_|_|_|_|_|j
 all_goals first|rfl|omega
theorem zbJ{N:Nat}{x:F_64}{b1:Shape}{n:Nat}(hn:n<=x.uO.length)(h24:n<=24)(z:Int):∀(k i:Nat),i<=min n 12->min n 12-i<k->
  QM N k (n:Int) (i:Int) x b1 (Shape.mk 3 0 (picT (3::x.uO.take i)) 0 0 false false false false false z)=some (tx 3 (picT (3::x.uO.take (min n 12))) false)
 |0,i,_,hk=>by omega
 |k+1,i,hi,hk=>by
  show K1 N (QM N k) _ _ x b1 _=_;unfold K1;dsimp only;have hlen:(picT (3::x.uO.take i)).length<=100:=by unfold picT;simp;omega
  rw[zb];by_cases h:i<min n 12
  ·have hit:i<x.uO.length:=by omega
   have hnn:(zf (byteAt x.uO (i:Int))&&decide ((0:Int)<6))=true:=by show(zf (((x.uO.getD i 0).toNat:Nat):Int)&&_)=true;unfold zf;rw[decide_eq_true (by omega)];rfl
   have hb:byteAt x.uO (i:Int)=(((x.uO.getD i 0).toNat:Nat):Int):=rfl;rw[if_pos (by omega),zb,if_pos (by omega),zt.2 ⟨by omega,by omega⟩,za];have hnn':(zf (byteAt x.uO (i:Int))&&decide (0<6))=true:=hnn;rw[hnn',za,hb,zt.2 ⟨by omega,by show _<((6:Nat):Int);omega⟩,za,za,zv1,Ze (by simp;omega),za,zk (by omega) (by omega),za];have e:picT (3::x.uO.take i)++[sy6 (x.uO.getD i 0)]=picT (3::x.uO.take (i+1)):=by rw[zmT hit];unfold picT;simp
   rw[e,show(i:Int)+1=((i+1:Nat):Int)by omega];exact zbJ hn h24 z k (i+1) (by omega) (by omega)
  ·have:i=min n 12:=by omega
   subst this;by_cases h2:(((min n 12:Nat):Nat):Int)<(n:Int)
   ·rw[if_pos h2,zb,if_neg (by omega)];rfl
   ·rw[if_neg h2];rfl
theorem zr8(a b:Nat):VU (a:Int) (b:Int)=((min a b:Nat):Int):=by unfold VU;split<;>omega
theorem zqX{N:Nat}(hN:3000<N){x:F_64}(hx:FX x):∃s z,zgq N x=some s/\MS s z/\z<=400/\s.uD=x.vD%6/\(s.uD=3->z=s.uC.length)/\
  (s.uD=4->YO N (fF x)=some s)/\(s.uD=5->XB N (fE x)=some s):=by
 have hk:=hx.k0;obtain⟨k,hk6⟩:=WQ (k:=6) hk (by decide);have hlt:k<6:=by omega
 have hn:VU ((x.uO).length:Int) 24=((min x.uO.length 24:Nat):Int):=zr8 _ 24;obtain⟨n,hn'⟩:∃n,n=min x.uO.length 24:=⟨_,rfl⟩
 rw[<-hn']at hn;have hn24:n<=24:=by omega
 have hm:jv (n:Int) 1=((max n 1:Nat):Int):=by unfold jv;split<;>omega
 have key:∀t:Bool,t=decide ((k:Int)=1\/(k:Int)=2)->∃s z,QQ N (n:Int) (k:Int) t x z0 (Shape.mk (k:Int) 0 [] 0 0 false false false false false (n:Int))=some s/\MS s z/\z<=400/\s.uD=(k:Int)/\(s.uD=3->z=s.uC.length)/\
   (s.uD=4->YO N (fF x)=some s)/\(s.uD=5->XB N (fE x)=some s):=by
  intro t ht;unfold QQ;dsimp only;have txt:∀(c:Int)(sym:UInt8),(c=1/\sym=65\/c=2/\sym=88)->∃s z,QO N (n:Int) [sym] x z0 (Shape.mk c 0 [] 0 0 false false false false false (n:Int))=some s/\MS s z/\z<=400/\s.uD=c/\(s.uD=3->z=s.uC.length)/\
    (s.uD=4->YO N (fF x)=some s)/\(s.uD=5->XB N (fE x)=some s):=by
   intro c sym hc;have hg:=zso (m:=max n 1) (by omega) (by omega);refine⟨tx c (List.replicate (max n 1) sym) x.uM,max n 1,?_,?_,?_,rfl,fun e=>?_,fun e=>?_,fun e=>?_⟩
   ·unfold QO;dsimp only;rw[hm];exact zbK (by omega) N 0 (by omega) (by omega)
   ·rcases hc with⟨rfl,rfl⟩|⟨rfl,rfl⟩
    ·have:=zvo hg.1 (.inl rfl) x.uM;rwa [mN]at this
    ·have:=zvo hg.2 (.inr rfl) x.uM;rwa [mN]at this
   ·omega
   ·have e:c=3:=e;omega
   ·have e:c=4:=e;omega
   ·have e:c=5:=e;omega
  cases t with
  |true=>
   have ht:=of_decide_eq_true ht.symm;rw[cond_true,zb];by_cases h2:(k:Int)=2
   ·rw[if_pos h2,h2];exact txt 2 88 (.inr ⟨rfl,rfl⟩)
   ·rw[if_neg h2];have h1:(k:Int)=1:=by omega
    rw[h1];exact txt 1 65 (.inl ⟨rfl,rfl⟩)
  |false=>
   have ht:=of_decide_eq_false ht.symm;rw[cond_false,zb];by_cases h3:(k:Int)=3
   ·rw[if_pos h3,h3];have hl3:=zbJ (N:=N) (x:=x) (b1:=z0) (n:=n) (by omega) hn24 (n:Int) N 0 (by omega) (by omega);refine⟨tx 3 (picT (3::x.uO.take (min n 12))) false,(picT (3::x.uO.take (min n 12))).length,hl3,zxx (by rw[mJ];omega),?_,rfl,fun _=>rfl,(fun e=>by cases e),(fun e=>by cases e)⟩;unfold picT;simp;omega
   ·rw[if_neg h3,zb];by_cases h4:(k:Int)=4
    ·rw[if_pos h4,h4];have hf:=zhO (N:=N) hN (x:=fF x) (dg:=x.vE.toNat) (fm:=x.vG.toNat) (pt:=x.vF.toNat) (by have:=hx.d0;show x.vE=_;omega) (by have:=hx.f0;show x.vG=_;omega) (by have:=hx.f1;omega) (by have:=hx.p0;show x.vF=_;omega) (by have:=hx.p1;omega) (by have:=hx.d1;omega);have h1:1<=x.vE.toNat%18+1:=by omega
     have h2:x.vE.toNat%18+1<=18:=by omega
     obtain⟨g1,g2,g3⟩:=zro (pt:=x.vF.toNat) (fm:=x.vG.toNat) h1 h2;obtain⟨z,hz⟩:=zvt g2 g3 (by rw[g1.cat];decide) (by rcases g1.use with e|e|e<;>rw[e]<;>decide);have hcat:=g1.cat;refine⟨shX (x.vE.toNat%18+1) x.vF.toNat x.vG.toNat,z,?_,hz,hz.zl (by rw[hcat];decide),hcat,(fun e=>by rw[hcat]at e;cases e),fun _=>hf,(fun e=>by rw[hcat]at e;cases e)⟩;show bnd (YO N (fF x)) _=_;rw[hf,zd]
    ·rw[if_neg h4,zb];by_cases h5:(k:Int)=5
     ·rw[if_pos h5,h5];obtain⟨sg,w,mn,ni,pt,pa,hp⟩:=zvr (x:=fE x) hx.s0 hx.o0 hx.w0 hx.m0 hx.n0 hx.t0 hx.a0;obtain⟨s,n',sc,g,e1,e2,e3,e4,e5⟩:=zhS hN hp hx.ins;have hcat:=e3.cat;have hu:s.uE=0:=by
       have:=zmi e2;apply Classical.byContradiction;intro hu;unfold chkV at e2;rw[if_neg (fun h=>h this),if_neg (by omega)]at e2;unfold zdt at e2;split at e2
       ·rename_i hh;exact hh e2
       ·split at e2
        ·cases e2
        ·unfold XO at e2;split at e2
         ·cases e2
         ·rw[if_pos ⟨hu,by omega⟩]at e2;cases e2
      obtain⟨z,hz⟩:=zvt e2 (by omega) (by rw[hcat];decide) (by omega);refine⟨s,z,?_,hz,hz.zl (by rw[hcat];decide),hcat,(fun e=>by rw[hcat]at e;cases e),(fun e=>by rw[hcat]at e;cases e),fun _=>e1⟩;show bnd (XB N (fE x)) _=_;rw[e1,zd]
     ·have hk0:k=0:=by omega
      subst hk0;rw[if_neg h5];exact⟨gr n,n,rfl,zwt (by omega),by omega,rfl,(fun e=>by cases e),(fun e=>by cases e),(fun e=>by cases e)⟩
 have hnn:(zf x.vD&&decide (0<6))=true:=by unfold zf;rw[decide_eq_true hk];rfl
 unfold zgq;rw[hnn,za,hn,hk6,zb];by_cases h1:(k:Int)=1
 ·rw[if_pos h1];exact key _ (decide_eq_decide.2 ⟨fun e=>.inl e,fun _=>h1⟩)
 ·rw[if_neg h1];exact key _ (decide_eq_decide.2 ⟨fun e=>.inr e,fun e=>by rcases e with e|e;exact absurd e h1;exact e⟩)
end Go.Proofs.C06
end
section
set_option maxRecDepth 100000
namespace Go.Proofs.C06
open Go Go.RowKit Go.Vc Go.Am Go.Dg
theorem zuV{N:Nat}(hN:3000<N){x:F}(h1:0<=x.uA)(h2:x.uA<=255)(h3:0<=x.uL)(h4:x.uL<=255)(h5:0<=x.uP)(h6:x.uP<=255):
  ∃s n ng l,YO N x=some s/\NS s n/\chkV s=0/\s.uC.length<=400/\Digs l/\l.length=n/\(ng=true->s.uG=true/\val l≠0)/\fOf N x=some (fld s (wr s n ng l)):=by
 have hsh:=zhO (N:=N) hN (x:=x) (dg:=x.uA.toNat) (fm:=x.uP.toNat) (pt:=x.uL.toNat) (by omega) (by omega) (by omega) (by omega) (by omega) (by omega);obtain⟨n,hn⟩:∃n,n=x.uA.toNat%18+1:=⟨_,rfl⟩
 obtain⟨l,ht,hd,hl⟩:=zlM (N:=N) hN (x:=x) h1;rw[<-hn]at hsh hl;obtain⟨hns,hc,hp⟩:=zro (n:=n) (pt:=x.uL.toNat) (fm:=x.uP.toNat) (by omega) (by omega);generalize shX n x.uL.toNat x.uP.toNat=s at hsh hns hc hp;have h18:=hns.n18;have hsc1:=hns.sc1;have hsc2:=hns.sc2;obtain⟨ng,hng⟩:∃ng,ng=(x.uN&&(s.uG&&decide (val l≠0))):=⟨_,rfl⟩
 refine⟨s,n,ng,l,hsh,hns,hc,hp,hd,hl,?_,?_⟩
 ·intro e;rw[hng]at e;simp only[mG,decide_eq_true_eq]at e;exact e.2
 ·unfold fOf;rw[hsh,zd,ht,zd,zqe hN hns hd hl x.uN,zd,<-hng];rfl
end Go.Proofs.C06
end
section
set_option maxRecDepth 100000
namespace Go.Proofs.C06
open Go Go.RowKit Go.Vc Go.Am Go.Dg
end Go.Proofs.C06
end
section
set_option maxRecDepth 100000
namespace Go.Proofs.C06
open Go Go.RowKit Go.Vc Go.Am Go.Dg
theorem zh7{N:Nat}{x:F_64}{s:Shape}{z:Nat}(hs:s.uI=(z:Int))(hz:z<=1000000):∀(k i:Nat)(L:uBk),i<=z->z-i<k->L.length=z->
  ∃b,zcK N k (i:Int) x 0 0 [] 0 0 false false false false false 0 s s.uD s.uE s.uC s.uA s.uB s.uG s.uJ s.uK s.uM s.uH s.uI L=some (fld s b)/\b.length=z
 |0,i,_,_,hk,_=>by omega
 |k+1,i,L,hi,hk,hL=>by
  show∃b,zgr N (zcK N k) _ x 0 0 [] 0 0 false false false false false 0 s _ _ _ _ _ _ _ _ _ _ _ L=some (fld s b)/\_;unfold zgr;rw[hs,zb];by_cases h:i<z
  ·have hi1:(i:Int)+1=((i+1:Nat):Int):=by omega
   have ih:∀L':uBk,L'.length=z->∃b,zcK N k ((i+1:Nat):Int) x 0 0 [] 0 0 false false false false false 0 s s.uD s.uE s.uC s.uA s.uB s.uG s.uJ s.uK s.uM s.uH (z:Int) L'=some (fld s b)/\b.length=z:=fun L' hL'=>by have:=zh7 (N:=N) (x:=x) hs hz k (i+1) L' (by omega) (by omega) hL';rwa [hs]at this
   rw[if_pos (by omega),zt.2 ⟨by omega,by omega⟩,za];rw[show chk (true&&inKb .u8 32)=chk (true:Bool) (α:=Field)from rfl,za,zb];by_cases ht:0<(x.uO.length:Int)
   ·have hnn:(zf (i:Int)&&decide (0<(x.uO.length:Int)))=true:=by unfold zf;rw[decide_eq_true ht,decide_eq_true (by omega)];rfl
    have hmod:(i:Int)% (x.uO.length:Int)=((i%x.uO.length:Nat):Int):=by omega
    have hml:i%x.uO.length<x.uO.length:=uA5 _ (by omega);have hbt:byteAt x.uO ((i%x.uO.length:Nat):Int)=(((x.uO.getD (i%x.uO.length) 0).toNat:Nat):Int):=rfl;rw[if_pos ht,hnn,za,hmod,zt.2 ⟨by omega,by omega⟩,za,uAT,zt.2 ⟨by omega,by omega⟩,za,hbt,ZQ,uAG,za,zk (by omega) (by omega),za,hi1];exact ih _ (by rw[uAT,uAT,hL])
   ·rw[if_neg ht,zk (by omega) (by omega),za,hi1];exact ih _ (by rw[uAT,hL])
  ·have:i=z:=by omega
   subst this;rw[if_neg (by omega)];exact⟨L,by rw[<-hs];rfl,hL⟩
theorem zwY{N:Nat}(hN:3000<N){x:F_64}(hx:FX x):∃s z b,zgq N x=some s/\MS s z/\z<=400/\s.uD=x.vD%6/\FOf N x=some (fld s b)/\b.length=z:=by
 obtain⟨s,z,e1,hm,hz,hc,_,h4,h5⟩:=zqX hN hx;have hS:=hm.siz;unfold FOf;rw[e1];by_cases c4:s.uD=4
 ·obtain⟨s',n,ng,l,f1,hs,hchk,hp,hd,hl,hng,f2⟩:=zuV hN (x:=fF x) hx.d0 hx.d1 hx.p0 hx.p1 hx.f0 hx.f1;rw[h4 c4]at f1;cases f1;refine⟨s,z,wr s n ng l,rfl,hm,hz,hc,?_,?_⟩
  ·rw[zd,decide_eq_true c4,cond_true];show bnd (fOf N (fF x)) _=_;rw[f2,zd]
  ·rw[(zw5 hs hd hl hng).2,hm.sz4 hs]
 ·by_cases c5:s.uD=5
  ·obtain⟨sg,w,mn,ni,pt,pa,hp⟩:=zvr (x:=fE x) hx.s0 hx.o0 hx.w0 hx.m0 hx.n0 hx.t0 hx.a0;obtain⟨s',n,sc,g,f1,f2,hES,h12,f5⟩:=zhS hN hp hx.ins;rw[h5 c5]at f1;cases f1;obtain⟨l,e2,hld,hll⟩:=zlM hN (x:=fF x) hx.d0;obtain⟨d1,d2,d3⟩:=zxq hld h12;have hsc:=hES.scn;have hn1:=hES.n1;have hll2:l.length<=18:=by rw[hll];have:=uA5 (fF x).uA.toNat (show 0<18 by decide);omega
   generalize hds:(l++qQ).take n=ds at d1 d2;have hq:val ds<10^n:=by have:=yg d1;rwa [d2]at this
   refine⟨s,z,zqI s (fmt n (val ds)) (x.vK&&decide (val ds≠0)),rfl,hm,hz,hc,?_,?_⟩
   ·rw[zd,decide_eq_false c4,cond_false,decide_eq_true c5,cond_true];show bnd (zhN N (fF x)) _=_;have htk:jp (l++qQ) (n:Int)=ds:=hds;rw[e2,zd];show chk (zY l qQ) (chk (zj 0 s.uA (l++qQ).length) (bnd (zch N x.vK (jp (l++qQ) s.uA) s.uB) _))=_;rw[Ze (by show _+12<=_;omega),za,hES.dig,d3,za,htk,hES.scl,zvH hN x.vK d1 (by omega) (by omega),zd,ztm hN hES f2 x.vK hq,zd];rw[<-hES.dig,<-hES.scl];rfl
   ·have:=zsR hES (Za n (val ds)) (jP n (val ds)) (x.vK&&decide (val ds≠0));omega
  ·obtain⟨b,g1,g2⟩:=zh7 (N:=N) (x:=x) hS (by omega) N 0 (List.replicate z 0) (uAw _) (by omega) mN;refine⟨s,z,b,rfl,hm,hz,hc,?_,g2⟩;rw[zd,decide_eq_false c4,cond_false,decide_eq_false c5,cond_false];have hrep:(List.replicate s.uI.toNat (0:UInt8))=List.replicate z 0:=by rw[hS,nA]
   have hmk:(zi0 1 s.uI&&decide (s.uI=s.uI))=true:=by rw[hS];exact zxd (by omega)
   rw[hmk,za,hrep];exact g1
end Go.Proofs.C06
end
section
set_option maxRecDepth 100000
namespace Go.Proofs.C06
open Go Go.RowKit Go.Vc Go.Am Go.Dg
end Go.Proofs.C06
end
section
set_option maxRecDepth 100000
namespace Go.Proofs.C06
open Go Go.RowKit Go.Vc Go.Am Go.Dg
def sp(c:UInt8):Bool:=([32]:uBk).contains c
end Go.Proofs.C06
end
section
set_option maxRecDepth 100000
namespace Go.Proofs.C06
open Go Go.RowKit Go.Vc Go.Am Go.Dg
end Go.Proofs.C06
end
section
set_option maxRecDepth 100000
namespace Go.Proofs.C06
open Go Go.RowKit Go.Vc Go.Am Go.Dg
end Go.Proofs.C06
end
section
set_option maxRecDepth 100000
namespace Go.Proofs.C06
open Go Go.RowKit Go.Vc Go.Am Go.Dg
end Go.Proofs.C06
end
section
set_option maxRecDepth 100000
namespace Go.Proofs.C06
open Go Go.RowKit Go.Vc Go.Am Go.Dg
theorem zvg(L:List AV)(m:Nat):atV L (m:Int)=L.getD m .undef:=by unfold atV;rw[nA]
theorem Jo{L:List AV}{m:Nat}{v:AV}(h:L[m]? =some v):atV L (m:Int)=v:=by rw[zvg,mH,h];rfl
theorem q8{L:List AV}{m:Nat}{v:AV}(h:L[m]? =some v):inIx (m:Int) L.length=true:=by have:=(mE.1 h).1;exact zt.2 ⟨by omega,by omega⟩
end Go.Proofs.C06
end
section
set_option maxRecDepth 100000
namespace Go.Proofs.C06
open Go Go.RowKit Go.Vc Go.Am Go.Dg
def zk5(b:uBk)(i:Nat):Int:=if i<b.length then byteAt b (i:Int)else 32
def zmd(x y:Int):Int:=if x<y then-1 else if y<x then 1 else 0
def zme(a b:uBk):Nat->Nat->Int
 |0,_=>0
 |k+1,i=>if zmd (zk5 a i) (zk5 b i)≠0 then zmd (zk5 a i) (zk5 b i)else zme a b k (i+1)
def zwM(a b:uBk):Int:=zme a b (max a.length b.length) 0
theorem zwL(x y:Int): -1<=zmd x y/\zmd x y<=1:=by unfold zmd;split<;>(try split)<;>omega
theorem zs5(a b:uBk):∀k i,-1<=zme a b k i/\zme a b k i<=1
 |0,_=>by unfold zme;omega
 |k+1,i=>by
  unfold zme;split
  ·exact zwL _ _
  ·exact zs5 a b k (i+1)
theorem zoj(N:Nat)(x y:Int):zel N x y=some (zmd x y):=by
 unfold zel zjk zmd;simp only[decide_true,uAH,zd,cond_false];rw[zb];split
 ·rfl
 ·rw[zb];split<;>rfl
theorem zga(N:Nat)(b:uBk)(i:Nat):zbw N b (i:Int)=some (zk5 b i):=by
 unfold zbw zk5;rw[zb];by_cases h:i<b.length
 ·rw[if_neg (by omega),if_pos h,zt.2 ⟨by omega,by omega⟩,za]
 ·rw[if_pos (by omega),if_neg h]
theorem Ww{N:Nat}{a b:uBk}{M:Nat}(hM:M<=1000000):∀(k' k i:Nat),i+k=M->k<k'->Z0 N k' a b (M:Int) (i:Int)=some (zme a b k i)
 |0,_,_,_,h=>by omega
 |k'+1,k,i,hi,hk=>by
  show YU N (Z0 N k') a b (M:Int) (i:Int)=_;unfold YU;rw[zb];cases k with
  |zero=>rw[if_neg (by omega)];rfl
  |succ k=>
   rw[if_pos (by omega),zga,zd,zga,zd,zoj,zd,zg];unfold zme;by_cases h0:zmd (zk5 a i) (zk5 b i)=0
   ·rw[if_pos h0,if_neg (fun e=>e h0),zk (by omega) (by omega),za,show(i:Int)+1=((i+1:Nat):Int)by omega];exact Ww hM k' k (i+1) (by omega) (by omega)
   ·rw[if_neg h0,if_pos h0]
theorem zmp{N:Nat}{a b:uBk}(ha:a.length<N)(hb:b.length<N)(hN:N<=1000000):zbx N a b=some (zwM a b):=by
 unfold zbx zwM;have e:jv (a.length:Int) (b.length:Int)=((max a.length b.length:Nat):Int):=by unfold jv;split<;>omega
 rw[e,show(0:Int)=((0:Nat):Int)from rfl];exact Ww (by omega) N _ 0 (by omega) (by omega)
def ntV(s:Shape)(b:uBk)(g:Bool):uBk×Int:=if s.uD≠4\/g=true then(b,0)else if 0<s.uB then([],12)else if(Ql s s.uA.toNat b).2≠0 then([],(Ql s s.uA.toNat b).2)else if zbc (Ql s s.uA.toNat b).1 (lenT s) 0 then(fmt (lenT s) (quo (val (Ql s s.uA.toNat b).1.uA) (Ql s s.uA.toNat b).1.uB.toNat 0),0)else([],14)
theorem zld{N:Nat}(hN:3000<N){s:Shape}{z:Nat}(h:MS s z){b:uBk}(hb:b.length=z)(hz:z<=400)(g:Bool):zfa N (fld s b) g=some (ntV s b g)/\(ntV s b g).1.length<=400:=by
 unfold zfa ntV;show cond (!decide (s.uD=4)) _ _=_/\_;rw[zg];by_cases h4:s.uD=4
 ·rw[if_pos h4];cases g with
  |true=>rw[cond_true,if_pos (.inr rfl)];exact⟨rfl,by rw[hb];exact hz⟩
  |false=>
   rw[cond_false,if_neg (by rintro(e|e);exact e h4;cases e)];show cond (decide (0<s.uB)) _ _=_/\_;rw[zb];by_cases hs0:0<s.uB
   ·rw[if_pos hs0,if_pos hs0];exact⟨rfl,uAw _⟩
   ·rw[if_neg hs0,if_neg hs0];obtain⟨n,hn⟩:=zrX h.chk h4 h.u0;have hz3:=zis hn;rw[<-h.sz4 hn]at hz3;rw[hn.nat,zim hN hn h.chk h.pic (by omega),zd,zg];by_cases hg:(Ql s n b).2=0
    ·have hs1:=hn.sc1;have h18:=hn.n18;have h1:=hn.n1;have hdg:=hn.dig;have el:(s.uA-s.uB)=((lenT s:Nat):Int):=by unfold lenT;omega
     have elt:lenT s=n+(-s.uB).toNat:=by unfold lenT;rw[hn.nat]
     rw[if_pos hg,if_neg (fun e=>e hg)];show chk (inKb .i64 (s.uA-s.uB)) (bnd (Vi N (Ql s n b).1 (s.uA-s.uB) 0) _)=_/\_;rw[el,zk (by omega) (by omega),za,zeV hN (zjm hn hg) (by omega) (by omega) (by decide) (by decide),zd];refine⟨rfl,?_⟩;split
     ·show(fmt _ _).length<=_;rw[jP];omega
     ·show([]:uBk).length<=_;decide
    ·rw[if_neg hg,if_pos hg];exact⟨rfl,uAw _⟩
 ·rw[if_neg h4,if_pos (.inl h4)];exact⟨rfl,by rw[hb];exact hz⟩
def cmV(s:Shape)(b:uBk)(t:Shape)(c:uBk):Int×Int:=if s.uD=4/\t.uD=4 then if(Ql s s.uA.toNat b).2≠0 then(0,(Ql s s.uA.toNat b).2)else if(Ql t t.uA.toNat c).2≠0 then(0,(Ql t t.uA.toNat c).2)else(zqN (Ql s s.uA.toNat b).1 (Ql t t.uA.toNat c).1,0)else if(ntV s b (decide (t.uD=0))).2≠0 then(0,(ntV s b (decide (t.uD=0))).2)else if(ntV t c (decide (s.uD=0))).2≠0 then(0,(ntV t c (decide (s.uD=0))).2)else(zwM (ntV s b (decide (t.uD=0))).1 (ntV t c (decide (s.uD=0))).1,0)
theorem zli{N:Nat}(hN:3000<N)(hN2:N<=1000000){s t:Shape}{z z':Nat}(h:MS s z)(h':MS t z')(hz:z<=400)(hz':z'<=400){b c:uBk}(hb:b.length=z)(hc:c.length=z'):
  jO N (fld s b) (fld t c)=some (cmV s b t c):=by
 unfold jO;show bnd (zbL N s) _=_;rw[VR (by omega) h.pic,h.chk,zd,decide_eq_true rfl,uAH,cond_false];show bnd (zbL N t) _=_;rw[VR (by omega) h'.pic,h'.chk,zd,decide_eq_true rfl,uAH,cond_false];show cond (!decide ((b.length:Int)=s.uI)) _ (cond (!decide ((c.length:Int)=t.uI)) _ (cond (decide (s.uD=4)) (yF N (decide (t.uD=4)) _ _) (yF N false _ _)))=_;rw[decide_eq_true (by rw[h.siz,hb]),uAH,cond_false,decide_eq_true (by rw[h'.siz,hc]),uAH,cond_false,zb];have k:∀x:Bool,x=decide (s.uD=4/\t.uD=4)->yF N x (fld s b) (fld t c)=some (cmV s b t c):=by
  intro x hx;unfold yF cmV;by_cases h44:s.uD=4/\t.uD=4
  ·rw[hx,decide_eq_true h44,cond_true,if_pos h44];obtain⟨n,hn⟩:=zrX h.chk h44.1 h.u0;obtain⟨m,hm⟩:=zrX h'.chk h44.2 h'.u0;have hz3:=zis hn;rw[<-h.sz4 hn]at hz3;have hz4:=zis hm;rw[<-h'.sz4 hm]at hz4;rw[hn.nat,hm.nat,zim hN hn h.chk h.pic (by omega),zd,zg];by_cases g1:(Ql s n b).2=0
   ·rw[if_pos g1,if_neg (fun e=>e g1),zim hN hm h'.chk h'.pic (by omega),zd,zg];by_cases g2:(Ql t m c).2=0
    ·rw[if_pos g2,if_neg (fun e=>e g2),zl8 hN (zjm hn g1) (zjm hm g2),zd]
    ·rw[if_neg g2,if_pos g2]
   ·rw[if_neg g1,if_pos g1]
  ·rw[hx,decide_eq_false h44,cond_false,if_neg h44];obtain⟨t1,t2⟩:=zld hN h hb hz (decide (t.uD=0));obtain⟨t3,t4⟩:=zld hN h' hc hz' (decide (s.uD=0));show bnd (zfa N (fld s b) (decide (t.uD=0))) _=_;rw[t1,zd,zg];by_cases g1:(ntV s b (decide (t.uD=0))).2=0
   ·rw[if_pos g1,if_neg (fun e=>e g1)];show bnd (zfa N (fld t c) (decide (s.uD=0))) _=_;rw[t3,zd,zg];by_cases g2:(ntV t c (decide (s.uD=0))).2=0
    ·rw[if_pos g2,if_neg (fun e=>e g2),zmp (by omega) (by omega) hN2,zd]
    ·rw[if_neg g2,if_pos g2]
   ·rw[if_neg g1,if_pos g1]
 by_cases h4:s.uD=4
 ·rw[if_pos h4];exact k _ (by rw[decide_eq_decide];exact⟨fun e=>⟨h4,e⟩,fun e=>e.2⟩)
 ·rw[if_neg h4];exact k _ (by rw[decide_eq_false (fun e=>h4 e.1)])
theorem zs6(s:Shape)(b:uBk)(t:Shape)(c:uBk): -1<=(cmV s b t c).1/\(cmV s b t c).1<=1:=by
 unfold cmV;have hD:∀x y:Decimal,-1<=zqN x y/\zqN x y<=1:=fun x y=>by
  have hv:∀a b,-1<=zoh a b/\zoh a b<=1:=fun a b=>by unfold zoh;split<;>(try split)<;>omega
  unfold zqN;split
  ·split
   ·exact hv _ _
   ·exact hv _ _
  ·split<;>omega
 split
 ·split
  ·exact⟨by show(-1:Int)<=0;decide,by show(0:Int)<=1;decide⟩
  ·split
   ·exact⟨by show(-1:Int)<=0;decide,by show(0:Int)<=1;decide⟩
   ·exact hD _ _
 ·split
  ·exact⟨by show(-1:Int)<=0;decide,by show(0:Int)<=1;decide⟩
  ·split
   ·exact⟨by show(-1:Int)<=0;decide,by show(0:Int)<=1;decide⟩
   ·exact zs5 _ _ _ _
end Go.Proofs.C06
end
section
set_option maxRecDepth 100000
namespace Go.Proofs.C06
open Go Go.RowKit Go.Vc Go.Am Go.Dg
def VW(s:Shape)(b:uBk):AV:=.agg [.int .u8 s.uD,.int .u8 s.uE,.str s.uC,.int .i64 s.uA,.int .i64 s.uB,.bool s.uG,.bool s.uJ,.bool s.uK,.bool s.uM,.bool s.uH,.int .i64 s.uI,.rob false b]
structure OKF(s:Shape)(b:uBk):Prop where
 ms:∃z,MS s z/\z<=400/\b.length=z
def FR(v:AV):Prop:=∃s b,v=VW s b/\OKF s b
theorem zcA{N:Nat}(hN:3000<N)(hN2:N<=1000000){s t:Shape}{b c:uBk}(h:OKF s b)(h':OKF t c):jO N (fld s b) (fld t c)=some (cmV s b t c):=by obtain⟨z,h1,h2,h3⟩:=h.ms;obtain⟨z',h4,h5,h6⟩:=h'.ms;exact zli hN hN2 h1 h4 h2 h5 h3 h6
def zdr(x:F_64):AV:=.agg [.int .u8 x.vD,.rob false x.uO,.int .u8 x.vE,.int .u8 x.vF,.int .u8 x.vG,.bool x.vK,.rob false x.wJ,.int .u8 x.vZ,.int .u8 x.wA,.int .u8 x.wC,.int .u8 x.wD,.int .u8 x.wE,.int .u8 x.wF,.int .u8 x.wG,.roi false .u16 x.wI,.bool x.wL,.bool x.uM]
theorem zj1{N:Nat}(hN:3000<N){x:F_64}(hx:FX x):∃s b,FOf N x=some (fld s b)/\OKF s b:=by obtain⟨s,z,b,_,h1,h2,_,h3,h4⟩:=zwY hN hx;exact⟨s,b,h3,⟨z,h1,h2,h4⟩⟩
theorem zhI{L:List AV}(hL:∀v∈L,FR v){m:Nat}(h:m<L.length):∃s b,L[m]? =some (VW s b)/\OKF s b:=by obtain⟨s,b,h1,h2⟩:=hL L[m] (uAM h);exact⟨s,b,by rw[mF h,h1],h2⟩
def tn(down:Bool)(n:Int):Int:=cond down (-n) n
theorem zcl{n:Int}(h1: -1000000000<=n)(h2:n<=1000000000):inKb .i64 n=true:=yp.2 (by unfold inK;exact⟨by show(-9223372036854775808:Int)<=_;omega,by show _<=(9223372036854775807:Int);omega⟩)
theorem ziR{N:Nat}(hN:3000<N)(hN2:N<=1000000){go:List AV->Bool->Bool->Int->Option (Bool×Int)}{L:List AV}{m:Nat}{s t:Shape}{b c:uBk}(h1:L[m]? =some (VW s b))(h2:L[m+1]? =some (VW t c))(o1:OKF s b)(o2:OKF t c)(hm:m<100000)(down ok:Bool):
  yT N go L down ok ((m+1:Nat):Int)=if(cmV s b t c).2≠0 then some (false,(cmV s b t c).2)else go L down (ok&&decide (tn down (cmV s b t c).1<=0)) ((m+2:Nat):Int):=by
 have e1:=Jo h1;have e2:=Jo h2;have i1:=q8 h1;have i2:=q8 h2;have hlt:=(mE.1 h2).1;have d1:decide (((m+1:Nat):Int)<(L.length:Int))=true:=decide_eq_true (by omega);have d2:((m+1:Nat):Int)-1=(m:Int):=by omega
 have d3:((m+1:Nat):Int)+1=((m+2:Nat):Int):=by omega
 have k1:inKb .i64 (m:Int)=true:=zcl (by omega) (by omega);have k2:inKb .i64 ((m+2:Nat):Int)=true:=zcl (by omega) (by omega);have hc:=zcA hN hN2 o1 o2;obtain⟨r1,r2⟩:=zs6 s b t c;generalize cmV s b t c=v at hc r1 r2⊢;have k3:inKb .i64 (-v.1)=true:=zcl (by omega) (by omega);unfold yT;simp only[d2,d3,e1,e2,i1,i2,d1,k1,k2,cond_true,za];refine Eq.trans (b:=bnd (jO N (fld s b) (fld t c)) fun rr=>cond (!decide (rr.2=0)) (some (false,rr.2)) (cond down (chk (inKb .i64 (-rr.1)) (cond ok (go L down (decide ((-rr.1)<=0)) ((m+2:Nat):Int)) (go L down false ((m+2:Nat):Int)))) (cond ok (go L down (decide (rr.1<=0)) ((m+2:Nat):Int)) (go L down false ((m+2:Nat):Int))))) rfl ?_;rw[hc,zd,zg];by_cases he:v.2=0
 ·rw[if_pos he,if_neg (fun e=>e he)];cases down with
  |true=>rw[cond_true,k3,za];cases ok<;>rfl
  |false=>rw[cond_false];cases ok<;>rfl
 ·rw[if_neg he,if_pos he]
theorem zlf{N:Nat}{go:List AV->Bool->Bool->Int->Option (Bool×Int)}{L:List AV}{i:Int}(h:(L.length:Int)<=i)(down ok:Bool):yT N go L down ok i=some (ok,0):=by unfold yT;rw[decide_eq_false (by omega),cond_false]
abbrev L8:=(Bool×Bool×Int×Bool×Int×Int×F_64)⊕(Bool×Bool×Int×Bool×Int×Int×F_64×List AV)
theorem zo6{N:Nat}(hN:3000<N)(hN2:N<=1000000){go:L8->Option Bool}{L:List AV}{m:Nat}{s t:Shape}{b c:uBk}(h1:L[m]? =some (VW s b))(h2:L[m+1]? =some (VW t c))(o1:OKF s b)(o2:OKF t c)(hm:m<100000)(down ok:Bool)(e:Int)(want:Bool)(first:Int)(x:F_64):
  jq N go down ok e want first (m:Int) x L=go (.inr (down,ok,e,want&&decide (tn down (cmV s b t c).1<=0),(if first=0 then(cmV s b t c).2 else first),((m+1:Nat):Int),x,L)):=by
 have e1:=Jo h1;have e2:=Jo h2;have i1:=q8 h1;have i2:=q8 h2;have hlt:=(mE.1 h2).1;have d1:decide (((m+1:Nat):Int)<(L.length:Int))=true:=decide_eq_true (by omega);have d3:(m:Int)+1=((m+1:Nat):Int):=by omega
 have k2:inKb .i64 ((m+1:Nat):Int)=true:=zcl (by omega) (by omega);have hc:=zcA hN hN2 o1 o2;obtain⟨r1,r2⟩:=zs6 s b t c;generalize cmV s b t c=v at hc r1 r2⊢;have k9:∀f:Int,ym N go down ok e want f (m:Int) v.1 x L=go (.inr (down,ok,e,want&&decide (tn down v.1<=0),f,((m+1:Nat):Int),x,L)):=by
  intro f;unfold ym;rw[d3];simp only[k2,za];have hd:decide (0<=v.1)=decide (-v.1<=0):=by rw[decide_eq_decide];omega
  cases want with
  |false=>rfl
  |true=>
   cases down with
   |true=>rw[hd];rfl
   |false=>show cond (decide (v.1<=0)) (go (.inr (false,ok,e,true,f,_,x,L))) (go (.inr (false,ok,e,false,f,_,x,L)))=go (.inr (false,ok,e,true&&decide (v.1<=0),f,_,x,L));cases decide (v.1<=0)<;>rfl
 unfold jq;simp only[d3,e1,e2,i1,i2,d1,k2,cond_true,za];refine Eq.trans (b:=bnd (jO N (fld s b) (fld t c)) fun rr=>cond (decide (first=0)) (ym N go down ok e want rr.2 (m:Int) rr.1 x L) (ym N go down ok e want first (m:Int) rr.1 x L)) rfl ?_;rw[hc,zd,k9,k9,zb];split<;>rfl
theorem zsg{N:Nat}{go:L8->Option Bool}{L:List AV}{m:Nat}(h:L.length<=m+1)(hm:m<100000)(down ok:Bool)(e:Int)(want:Bool)(first:Int)(x:F_64):
  jq N go down ok e want first (m:Int) x L=j8 N down ok e want first x L:=by
 unfold jq;rw[zcl (by omega) (by omega),za,decide_eq_false (by omega),cond_false]
theorem zlx{N:Nat}(hN:3000<N)(hN2:N<=1000000){L:List AV}(hL:∀v∈L,FR v)(h6:L.length<=6)(down:Bool)(first:Int)(hf:first≠0)(x:F_64):∀(k m:Nat)(want:Bool),L.length-m<k->m<=6->
  ∃w,∀(ok:Bool)(e:Int),zZ N k (.inr (down,ok,e,want,first,(m:Int),x,L))=j8 N down ok e w first x L
 |0,_,_,h,_=>by omega
 |k+1,m,want,hk,hm=>by
  show∃w,∀(ok:Bool)(e:Int),jq N (zZ N k) down ok e want first (m:Int) x L=_
  by_cases hlt:m+1<L.length
  ·obtain⟨s,b,h1,o1⟩:=zhI hL (show m<L.length by omega);obtain⟨t,c,h2,o2⟩:=zhI hL hlt;obtain⟨w,h3⟩:=zlx hN hN2 hL h6 down first hf x k (m+1) (want&&decide (tn down (cmV s b t c).1<=0)) (by omega) (by omega)
   exact⟨w,fun ok e=>by rw[zo6 hN hN2 h1 h2 o1 o2 (by omega),if_neg hf];exact h3 ok e⟩
  ·exact⟨want,fun ok e=>zsg (by omega) (by omega) _ _ _ _ _ _⟩
theorem zeL{N:Nat}(hN:3000<N)(hN2:N<=1000000){L:List AV}(hL:∀v∈L,FR v)(h6:L.length<=6)(down:Bool)(x:F_64):∀(k k' m:Nat)(ok:Bool),L.length-m<k->L.length-m<k'->m<=6->
  ∃r1 r2 w,JO N k L down ok ((m+1:Nat):Int)=some (r1,r2)/\(∀ok3 e3,zZ N k' (.inr (down,ok3,e3,ok,0,(m:Int),x,L))=j8 N down ok3 e3 w r2 x L)/\(r2=0->w=r1)/\(r2≠0->r1=false)
 |0,_,_,_,h,_,_=>by omega
 |_+1,0,_,_,_,h,_=>by omega
 |k+1,k'+1,m,ok,hk,hk',hm=>by
  show∃r1 r2 w,yT N (JO N k) L down ok ((m+1:Nat):Int)=some (r1,r2)/\(∀ok3 e3,jq N (zZ N k') down ok3 e3 ok 0 (m:Int) x L=_)/\_;by_cases hlt:m+1<L.length
  ·obtain⟨s,b,h1,o1⟩:=zhI hL (show m<L.length by omega);obtain⟨t,c,h2,o2⟩:=zhI hL hlt;rw[ziR hN hN2 h1 h2 o1 o2 (by omega)];have e8:∀ok3 e3,jq N (zZ N k') down ok3 e3 ok 0 (m:Int) x L=zZ N k' (.inr (down,ok3,e3,ok&&decide (tn down (cmV s b t c).1<=0),(cmV s b t c).2,((m+1:Nat):Int),x,L)):=fun ok3 e3=>by rw[zo6 hN hN2 h1 h2 o1 o2 (by omega),if_pos rfl]
   by_cases he:(cmV s b t c).2=0
   ·rw[if_neg (fun e=>e he)];obtain⟨r1,r2,w,g1,g2,g3,g4⟩:=zeL hN hN2 hL h6 down x k k' (m+1) (ok&&decide (tn down (cmV s b t c).1<=0)) (by omega) (by omega) (by omega);exact⟨r1,r2,w,g1,fun ok3 e3=>by rw[e8,he];exact g2 ok3 e3,g3,g4⟩
   ·rw[if_pos he];obtain⟨w,h3⟩:=zlx hN hN2 hL h6 down (cmV s b t c).2 he x k' (m+1) (ok&&decide (tn down (cmV s b t c).1<=0)) (by omega) (by omega);exact⟨false,(cmV s b t c).2,w,rfl,fun ok3 e3=>by rw[e8];exact h3 ok3 e3,fun e=>absurd e he,fun _=>rfl⟩
  ·rw[zlf (by omega)];exact⟨ok,0,ok,rfl,fun ok3 e3=>zsg (by omega) (by omega) _ _ _ _ _ _,fun _=>rfl,fun h=>absurd rfl h⟩
theorem zr3{N:Nat}(hN:3000<N)(hN2:N<=1000000){s t:Shape}{b c:uBk}(o1:OKF s b)(o2:OKF t c)(down:Bool):zlh N (fld s b) (fld t c) down=some (decide (tn down (cmV s b t c).1<0),(cmV s b t c).2):=by
 obtain⟨r1,r2⟩:=zs6 s b t c;unfold zlh;rw[zcA hN hN2 o1 o2,zd];cases down with
 |true=>rw[cond_true,zcl (by omega) (by omega),za];rfl
 |false=>rw[cond_false];rfl
abbrev L7:=(Bool×Int×Int×Int×F_64)⊕(Bool×Int×Int×Int×F_64×List AV)
theorem zkF{N:Nat}(hN:3000<N)(hN2:N<=1000000){go:List AV->Bool->Int->Int->Field->Option (Int×Bool×Int)}{L:List AV}{lo hi:Nat}{s t:Shape}{b c:uBk}(h1:L[(lo+hi)/2]? =some (VW s b))(o1:OKF s b)(o2:OKF t c)(hlt:lo<hi)(hm:hi<100000)(down:Bool):
  yl N go L down (lo:Int) (hi:Int) (fld t c)=if(cmV s b t c).2≠0 then some (0,false,(cmV s b t c).2)else if tn down (cmV s b t c).1<0 then go L down (((lo+hi)/2+1:Nat):Int) (hi:Int) (fld t c)else go L down (lo:Int) (((lo+hi)/2:Nat):Int) (fld t c):=by
 have e1:=Jo h1;have i1:=q8 h1;have d1:decide ((lo:Int)<(hi:Int))=true:=decide_eq_true (by omega);have d2:(lo:Int)+(hi:Int)=((lo+hi:Nat):Int):=by omega
 have d3:((lo+hi:Nat):Int)/2=(((lo+hi)/2:Nat):Int):=by omega
 have d4:(((lo+hi)/2:Nat):Int)+1=(((lo+hi)/2+1:Nat):Int):=by omega
 have k1:inKb .i64 ((lo+hi:Nat):Int)=true:=zcl (by omega) (by omega);have k2:inKb .i64 (((lo+hi)/2:Nat):Int)=true:=zcl (by omega) (by omega);have k3:inKb .i64 (((lo+hi)/2+1:Nat):Int)=true:=zcl (by omega) (by omega);have k4:zf ((lo+hi:Nat):Int)=true:=decide_eq_true (by omega);have hc:=zr3 hN hN2 o1 o2 down;unfold yl;simp only[d2,d3,d4,e1,i1,d1,k1,k2,k3,k4,cond_true,za];refine Eq.trans (b:=bnd (zlh N (fld s b) (fld t c) down) fun rr=>cond (!decide (rr.2=0)) (some (0,false,rr.2)) (cond rr.1 (go L down (((lo+hi)/2+1:Nat):Int) (hi:Int) (fld t c)) (go L down (lo:Int) (((lo+hi)/2:Nat):Int) (fld t c)))) rfl ?_;rw[hc,zd,zg];by_cases he:(cmV s b t c).2=0
 ·rw[if_pos he,if_neg (fun e=>e he),zb]
 ·rw[if_neg he,if_pos he]
theorem zuH{N:Nat}(hN:3000<N)(hN2:N<=1000000){go:L7->Option Bool}{L:List AV}{lo hi:Nat}{s t:Shape}{b c:uBk}(h1:L[(lo+hi)/2]? =some (VW s b))(o1:OKF s b)(o2:OKF t c){x:F_64}(hx:FOf N x=some (fld t c))(hlt:lo<hi)(hm:hi<100000)(down:Bool):
  jr N go down (lo:Int) (hi:Int) 0 x L=if tn down (cmV s b t c).1<0 then go (.inr (down,(((lo+hi)/2+1:Nat):Int),(hi:Int),(cmV s b t c).2,x,L))else go (.inr (down,(lo:Int),(((lo+hi)/2:Nat):Int),(cmV s b t c).2,x,L)):=by
 have e1:=Jo h1;have i1:=q8 h1;have d1:decide ((lo:Int)<(hi:Int))=true:=decide_eq_true (by omega);have d2:(lo:Int)+(hi:Int)=((lo+hi:Nat):Int):=by omega
 have d3:((lo+hi:Nat):Int)/2=(((lo+hi)/2:Nat):Int):=by omega
 have d4:(((lo+hi)/2:Nat):Int)+1=(((lo+hi)/2+1:Nat):Int):=by omega
 have k1:inKb .i64 ((lo+hi:Nat):Int)=true:=zcl (by omega) (by omega);have k2:inKb .i64 (((lo+hi)/2:Nat):Int)=true:=zcl (by omega) (by omega);have k3:inKb .i64 (((lo+hi)/2+1:Nat):Int)=true:=zcl (by omega) (by omega);have k4:zf ((lo+hi:Nat):Int)=true:=decide_eq_true (by omega);have hc:=zcA hN hN2 o1 o2;generalize cmV s b t c=v at hc⊢;unfold jr;simp only[d2,d3,d4,e1,i1,d1,k1,k2,k3,k4,hx,zd,cond_true,za,decide_true];refine Eq.trans (b:=bnd (jO N (fld s b) (fld t c)) fun rr=>cond (!down) (cond (decide (rr.1<0)) (go (.inr (down,(((lo+hi)/2+1:Nat):Int),(hi:Int),rr.2,x,L))) (cond down (cond (decide (0<rr.1)) (go (.inr (down,(((lo+hi)/2+1:Nat):Int),(hi:Int),rr.2,x,L))) (go (.inr (down,(lo:Int),(((lo+hi)/2:Nat):Int),rr.2,x,L)))) (go (.inr (down,(lo:Int),(((lo+hi)/2:Nat):Int),rr.2,x,L)))))
  (cond down (cond (decide (0<rr.1)) (go (.inr (down,(((lo+hi)/2+1:Nat):Int),(hi:Int),rr.2,x,L))) (go (.inr (down,(lo:Int),(((lo+hi)/2:Nat):Int),rr.2,x,L)))) (go (.inr (down,(lo:Int),(((lo+hi)/2:Nat):Int),rr.2,x,L))))) rfl ?_
 rw[hc,zd];cases down with
 |true=>
  show cond (decide (0<v.1)) _ _=if-v.1<0 then _ else _
  rw[zb];by_cases h:0<v.1
  ·rw[if_pos h,if_pos (by omega)]
  ·rw[if_neg h,if_neg (by omega)]
 |false=>
  show cond (decide (v.1<0)) _ _=if v.1<0 then _ else _
  rw[zb];rfl
theorem zm2{N:Nat}(hN:3000<N)(hN2:N<=1000000){go:List AV->Bool->Int->Int->Field->Option (Int×Bool×Int)}{L:List AV}{lo hi:Nat}{s t:Shape}{b c:uBk}(h1:L[lo]? =some (VW s b))(o1:OKF s b)(o2:OKF t c)(hlo:hi<=lo)(down:Bool):
  yl N go L down (lo:Int) (hi:Int) (fld t c)=if(cmV s b t c).2≠0 then some (0,false,(cmV s b t c).2)else some ((lo:Int),decide ((cmV s b t c).1=0),0):=by
 have e1:=Jo h1;have i1:=q8 h1;have hlt:=(mE.1 h1).1;have d1:decide ((lo:Int)<(hi:Int))=false:=decide_eq_false (by omega);have d2:decide ((lo:Int)=(L.length:Int))=false:=decide_eq_false (by omega);have hc:=zcA hN hN2 o1 o2;generalize cmV s b t c=v at hc⊢;unfold yl;simp only[e1,i1,d1,d2,cond_false];refine Eq.trans (b:=bnd (jO N (fld s b) (fld t c)) fun rr=>cond (!decide (rr.2=0)) (some (0,false,rr.2)) (some ((lo:Int),decide (rr.1=0),0))) rfl ?_;rw[hc,zd,zg];by_cases he:v.2=0
 ·rw[if_pos he,if_neg (fun e=>e he)]
 ·rw[if_neg he,if_pos he]
theorem zo8(N:Nat)(down:Bool)(low none_:Int)(is:Bool)(x:F_64)(L:List AV):jA N down low none_ is x L=if none_=0 then zJ N down low none_ is x L else zJ N down 0 none_ false x L:=by unfold jA;rw[zg]
theorem zxf{N:Nat}(hN:3000<N)(hN2:N<=1000000){L:List AV}{lo:Nat}{s t:Shape}{b c:uBk}(h1:L[lo]? =some (VW s b))(o1:OKF s b)(o2:OKF t c){x:F_64}(hx:FOf N x=some (fld t c))(down:Bool):
  zV N down (lo:Int) 0 x L=if(cmV s b t c).2≠0 then zJ N down 0 (cmV s b t c).2 false x L else zJ N down (lo:Int) 0 (decide ((cmV s b t c).1=0)) x L:=by
 have e1:=Jo h1;have i1:=q8 h1;have hlt:=(mE.1 h1).1;have d1:decide ((lo:Int)<(L.length:Int))=true:=decide_eq_true (by omega);have hc:=zcA hN hN2 o1 o2;generalize cmV s b t c=v at hc⊢;unfold zV j7;simp only[e1,i1,d1,hx,zd,cond_true,za,decide_true];refine Eq.trans (b:=bnd (jO N (fld s b) (fld t c)) fun rr=>cond (decide (rr.2=0)) (jA N down (lo:Int) rr.2 (decide (rr.1=0)) x L) (jA N down (lo:Int) rr.2 false x L)) rfl ?_;rw[hc,zd,zb,zo8,zo8];by_cases he:v.2=0
 ·rw[if_pos he,if_pos he,if_neg (fun e=>e he),he]
 ·rw[if_neg he,if_neg he,if_pos he]
theorem zxg{N:Nat}{L:List AV}{lo:Int}(h:(L.length:Int)<=lo)(down:Bool)(x:F_64):zV N down lo 0 x L=zJ N down lo 0 false x L:=by unfold zV j7;rw[decide_eq_true rfl,cond_true,decide_eq_false (by omega),cond_false,zo8,if_pos rfl]
theorem zwp{N:Nat}{L:List AV}{lo e:Int}(h:e≠0)(down:Bool)(x:F_64):zV N down lo e x L=zJ N down 0 e false x L:=by unfold zV j7;rw[decide_eq_false h,cond_false,cond_false,zo8,if_neg h]
theorem WG{N:Nat}(hN:3000<N)(hN2:N<=1000000){L:List AV}(hL:∀v∈L,FR v)(h6:L.length<=6){x:F_64}{t:Shape}{c:uBk}(hx:FOf N x=some (fld t c))(o2:OKF t c)(down:Bool):∀(k k' lo hi:Nat),hi-lo<k->hi-lo<k'->hi<=L.length->lo<=L.length->
  ∃r:Int×Bool×Int,JP N k L down (lo:Int) (hi:Int) (fld t c)=some r/\jx N k' (.inr (down,(lo:Int),(hi:Int),0,x,L))=zJ N down r.1 r.2.2 r.2.1 x L
 |0,_,_,_,h,_,_,_=>by omega
 |_+1,0,_,_,_,h,_,_=>by omega
 |k+1,k'+1,lo,hi,hk,hk',hh,hl=>by
  show∃r:Int×Bool×Int,yl N (JP N k) L down (lo:Int) (hi:Int) (fld t c)=some r/\jr N (jx N k') down (lo:Int) (hi:Int) 0 x L=_;by_cases hlt:lo<hi
  ·obtain⟨s,b,h1,o1⟩:=zhI hL (show(lo+hi)/2<L.length by omega);rw[zkF hN hN2 h1 o1 o2 hlt (by omega),zuH hN hN2 h1 o1 o2 hx hlt (by omega)];by_cases he:(cmV s b t c).2=0
   ·rw[if_neg (fun e=>e he),he];by_cases hn:tn down (cmV s b t c).1<0
    ·rw[if_pos hn,if_pos hn];exact WG hN hN2 hL h6 hx o2 down k k' _ _ (by omega) (by omega) hh (by omega)
    ·rw[if_neg hn,if_neg hn];exact WG hN hN2 hL h6 hx o2 down k k' _ _ (by omega) (by omega) (by omega) hl
   ·rw[if_pos he];refine⟨_,rfl,?_⟩;have stop:∀lo' hi':Int,jx N k' (.inr (down,lo',hi',(cmV s b t c).2,x,L))=zJ N down 0 (cmV s b t c).2 false x L:=fun lo' hi'=>by
     obtain⟨q,rfl⟩:∃q,k'=q+1:=⟨k'-1,by omega⟩
     show jr N (jx N q) down lo' hi' (cmV s b t c).2 x L=_;unfold jr;rw[decide_eq_false he,cond_false,zwp he];cases decide (lo'<hi')<;>rfl
    rw[stop,stop];split<;>rfl
  ·have hl7:jr N (jx N k') down (lo:Int) (hi:Int) 0 x L=zV N down (lo:Int) 0 x L:=by unfold jr;rw[decide_eq_false (by omega),cond_false]
   rw[hl7];by_cases hll:lo<L.length
   ·obtain⟨s,b,h1,o1⟩:=zhI hL hll;rw[zm2 hN hN2 h1 o1 o2 (by omega),zxf hN hN2 h1 o1 o2 hx];by_cases he:(cmV s b t c).2=0
    ·rw[if_neg (fun e=>e he),if_neg (fun e=>e he)];exact⟨_,rfl,rfl⟩
    ·rw[if_pos he,if_pos he];exact⟨_,rfl,rfl⟩
   ·rw[zxg (by omega)];refine⟨((lo:Int),false,0),?_,rfl⟩;unfold yl;rw[decide_eq_false (by omega),cond_false,decide_eq_true (by omega),cond_true]
theorem zqg{N:Nat}(hN:3000<N)(hN2:N<=1000000){L:List AV}(hL:∀v∈L,FR v)(h6:L.length<=6){x:F_64}(hx:FX x)(down:Bool):yL N down x L=some true:=by
 obtain⟨t,c,hxf,o2⟩:=zj1 hN hx;obtain⟨r1,r2,w,g1,g2,g3,g4⟩:=zeL hN hN2 hL h6 down x N N 0 true (by omega) (by omega) (by omega);obtain⟨r,s1,s2⟩:=WG hN hN2 hL h6 hxf o2 down N N 0 L.length (by omega) (by omega) (mI _) (uAw _);unfold yL zaN;rw[show(1:Int)=((0+1:Nat):Int)from rfl,g1,zd];dsimp only;refine(g2 r1 r2).trans ?_;have k2:yK N down x L=some true:=by unfold yK;refine s2.trans ?_;have s3:zaO N L (fld t c) down=some r:=s1;unfold zJ;rw[hxf,zd,s3,zd,decide_eq_true rfl,decide_eq_true rfl,decide_eq_true rfl];rfl
 unfold j8;rw[decide_eq_true rfl,uAH,cond_false];by_cases h0:r2=0
 ·have hw:=g3 h0;subst hw;rw[h0,decide_eq_true rfl];cases w with
  |true=>exact k2
  |false=>exact k2
 ·have hr:=g4 h0;subst hr;rw[decide_eq_false h0];cases w with
  |true=>exact k2
  |false=>exact k2
theorem zuI{N:Nat}(hN:3000<N){x:F_64}(hx:FX x)(down:Bool):q6 N down x=some true:=by
 obtain⟨t,c,hxf,o2⟩:=zj1 hN hx;obtain⟨n,rfl⟩:∃n,N=n+1:=⟨N-1,by omega⟩
 have hs:zaN (n+1) [] down=some (true,0):=rfl;have hq:zaO (n+1) [] (fld t c) down=some (0,false,0):=rfl;have h2:qZ (n+1) down x=some true:=by show qY (n+1) down 0 0 false x=some true;unfold qY;rw[hxf,zd,hq,zd];rfl
 unfold q6;rw[hs,zd];show qZ (n+1) down x=some true;exact h2
abbrev LA:=(List AV×Bool×Int×F_64)⊕(List AV×Bool×Int×F_64×List AV)
theorem zlz{N:Nat}{go:LA->Option Bool}{l:List AV}{m:Nat}{y:F_64}{s:Shape}{b:uBk}(h1:l[m]? =some (zdr y))(hy:FOf N y=some (fld s b))(hm:m<100000)(down:Bool)(x:F_64):
  jJ N go l down (m:Int) x=go (.inr (l,down,((m+1:Nat):Int),x,[VW s b]))/\∀B:List AV,B.length<=100->jI N go l down (m:Int) x B=go (.inr (l,down,((m+1:Nat):Int),x,B++[VW s b])):=by
 have e1:=Jo h1;have i1:=q8 h1;have hlt:=(mE.1 h1).1;have d1:decide ((m:Int)<(l.length:Int))=true:=decide_eq_true (by omega);have d3:(m:Int)+1=((m+1:Nat):Int):=by omega
 have k2:inKb .i64 ((m+1:Nat):Int)=true:=zcl (by omega) (by omega);have g1:∀B:List AV,B.length<=100->∀v:AV,zM 80 (B++[v]).length=true:=fun B hb v=>by rw[mP,uAR];unfold zM;rw[mG,uA4,uA4];exact⟨by omega,by omega⟩
 constructor
 ·unfold jJ;simp only[d3,e1,i1,d1,k2,cond_true,za];refine Eq.trans (b:=bnd (FOf N y) fun rr=>chk (zM 80 ([]++[VW (ztZ rr) rr.vM]).length) (go (.inr (l,down,((m+1:Nat):Int),x,[]++[VW (ztZ rr) rr.vM])))) rfl ?_;rw[hy,zd,g1 _ (uAw _),za];rfl
 ·intro B hB;unfold jI;simp only[d3,e1,i1,d1,k2,cond_true,za];refine Eq.trans (b:=bnd (FOf N y) fun rr=>chk (zM 80 (B++[VW (ztZ rr) rr.vM]).length) (go (.inr (l,down,((m+1:Nat):Int),x,B++[VW (ztZ rr) rr.vM])))) rfl ?_;rw[hy,zd,g1 _ hB,za];rfl
theorem zly{N:Nat}(hN:3000<N)(hN2:N<=1000000){l:List F_64}(hl:∀y∈l,FX y)(h6:l.length<=6){x:F_64}(hx:FX x)(down:Bool):∀(k m:Nat)(B:List AV),l.length-m<k->m<=l.length->B.length=m->(∀v∈B,FR v)->
  jf N k (.inr (l.map zdr,down,(m:Int),x,B))=some true
 |0,_,_,h,_,_,_=>by omega
 |k+1,m,B,hk,hm,hB,hF=>by
  show jI N (jf N k) (l.map zdr) down (m:Int) x B=some true;by_cases hlt:m<l.length
  ·obtain⟨s,b,hy,o1⟩:=zj1 hN (hl l[m] (uAM hlt));have hg:(l.map zdr)[m]? =some (zdr l[m]):=by rw[nS,mF hlt];rfl
   rw[(zlz hg hy (by omega) down x).2 B (by omega)];refine zly hN hN2 hl h6 hx down k (m+1) _ (by omega) (by omega) (by simp[hB]) fun v hv=>?_
   rcases mQ.1 hv with h|h
   ·exact hF v h
   ·rw[mM]at h;subst h;exact⟨s,b,rfl,o1⟩
  ·have:jI N (jf N k) (l.map zdr) down (m:Int) x B=yL N down x B:=by unfold jI;rw[decide_eq_false (by rw[nH];omega),cond_false]
   rw[this];exact zqg hN hN2 hF (by omega) hx down
theorem zfj(l:List F_64)(x:F_64)(down:Bool)(hl:∀y∈l,FX y)(hx:FX x):∃N,yW N (l.map zdr) x down=some true:=by
 refine⟨4000,?_⟩;have hN:3000<4000:=by decide
 have hN2:4000<=1000000:=by decide
 generalize (4000:Nat)=N at hN hN2⊢;unfold yW;rw[zb,nH];by_cases h6:6<(l.length:Int)
 ·rw[if_pos h6]
 ·rw[if_neg h6];obtain⟨n,hn⟩:∃n,N=n+1:=⟨N-1,by omega⟩
  have e:jf N N (.inl (l.map zdr,down,0,x))=jJ N (jf N n) (l.map zdr) down 0 x:=by
   conv=>lhs;arg 2;rw[hn]
   rfl
  rw[e];by_cases h0:0<l.length
  ·obtain⟨s,b,hy,o1⟩:=zj1 hN (hl l[0] (uAM h0));have hg:(l.map zdr)[0]? =some (zdr l[0]):=by rw[nS,mF h0];rfl
   rw[show(0:Int)=((0:Nat):Int)from rfl,(zlz hg hy (by omega) down x).1];refine zly hN hN2 hl (by omega) hx down n 1 _ (by omega) (by omega) rfl fun v hv=>?_
   rw[mM]at hv;subst hv;exact⟨s,b,rfl,o1⟩
  ·have:jJ N (jf N n) (l.map zdr) down 0 x=q6 N down x:=by unfold jJ;rw[decide_eq_false (by rw[nH];omega),cond_false]
   rw[this];exact zuI hN hx down
end Go.Proofs.C06
end
