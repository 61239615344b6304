/-
  A part of the proof of the laws.
-/
import Derived.Test.YtigfdpnifmaleaaGreatDoorS7
import Derived.Test.YtigfdpnifmaleaaGreatDoorUa
import Derived.Test.YtigfdpnifmaleaaGreatDoorEc
import Derived.Test.YtigfdpnifmaleaaGreatDoorUd
import Derived.Test.YtigfdpnifmaleaaGreatDoorEd
import Derived.Test.YtigfdpnifmaleaaGreatDoorEg
import Derived.Test.YtigfdpnifmaleaaGreatDoorW1
section
set_option maxRecDepth 100000
namespace Go.Proofs.C06
open Go Go.RowKit Go.Vc Go.Am Go.Dg
def fit(b:uBl)(n:Nat)(left:Bool):uBl:=if left=true then List.replicate (n-b.length) 32++b.drop (b.length-n)else b.take n++List.replicate (n-b.length) 32
theorem zzU{n:Nat}(h:n<=100000000):(zj1 1 (n:Int)&&decide ((n:Int)=(n:Int)))=true:=by show((Nat.ble (1*n) 281474976710656&&Nat.ble n 9223372036854775807)&&decide ((n:Int)=(n:Int)))=true;rw[decide_eq_true rfl,uAS,mE,Nat.ble_eq,Nat.ble_eq];omega
end Go.Proofs.C06
end
section
set_option maxRecDepth 100000
namespace Go.Proofs.C06
open Go Go.RowKit Go.Vc Go.Am Go.Dg
def cutK(d:Decimal)(s:Int):Nat:=((d.uB.toNat:Int)-s).toNat
end Go.Proofs.C06
end
section
set_option maxRecDepth 100000
namespace Go.Proofs.C06
open Go Go.RowKit Go.Vc Go.Am Go.Dg
structure MS(s:Shape)(z:Nat):Prop where
 chk:chkV s=0
 pic:s.uC.length<=400
 siz:s.uI=(z:Int)
 c0:0<=s.uD
 c5:s.uD<=5
 u0:0<=s.uG
 zle:z<=1048576
 zl:s.uD≠0->z<=400
theorem znh{s:Shape}(h:chkV s=0):yY s=0:=by
 unfold chkV at h;by_cases hE:yY s=0
 ·exact hE
 ·rw[if_pos hE]at h;exact absurd h hE
theorem zxY{s:Shape}(h:chkV s=0)(hp:s.uC.length<=400)(hc:0<=s.uD)(hu:0<=s.uG):∃z,MS s z:=by
 have hE:=znh h;have hE':=hE;unfold yY at hE;split at hE
 ·cases hE
 ·rename_i h1;split at hE
  ·cases hE
  ·rename_i h2;split at hE
   ·cases hE
   ·rename_i h3;by_cases h0:s.uD=0
    ·refine⟨s.uI.toNat,h,hp,by omega,hc,by omega,hu,by omega,fun e=>absurd h0 e⟩
    ·have hs:=zwg h h0;have hz:0<=sizeV s/\sizeV s<=400:=by
      unfold sizeV;rw[if_neg h0];split
      ·have:szN s.uC<=s.uC.length:=by unfold szN;omega
       omega
      ·repeat' split
       all_goals omega
     refine⟨s.uI.toNat,h,hp,by omega,hc,by omega,hu,by omega,fun _=>by omega⟩
theorem NS.nat{s:Shape}{n:Nat}(h:NS s n):s.uA.toNat=n:=by have:=h.dig;omega
theorem VI{s:Shape}{n:Nat}(h:NS s n){b:uBl}(h0:(yf s n b).2=0):VD (yf s n b).1:=by
 unfold yf at h0⊢;by_cases hr:(Yg s n b).2=0
 ·rw[if_pos hr];obtain⟨r1,r2,r3⟩:=WU h hr;rw[r3];obtain⟨d1,d2⟩:=zjf h r1 r2;exact (zqt h d1 d2).1
 ·rw[if_neg hr]at h0;exact absurd h0 hr
theorem Vj{s:Shape}{n:Nat}(h:NS s n):szV s n<=300:=by
 have:=h.n18;unfold szV binW
 repeat' split
 all_goals omega
theorem MS.sz4{s:Shape}{z n:Nat}(h:MS s z)(hn:NS s n):z=szV s n:=by have h1:=h.siz;have h2:=hn.size;omega
def lenT(s:Shape):Nat:=s.uA.toNat+(-s.uB).toNat
end Go.Proofs.C06
end
section
set_option maxRecDepth 100000
namespace Go.Proofs.C06
open Go Go.RowKit Go.Vc Go.Am Go.Dg
def tx(c:Int)(p:uBl)(just:Bool):Shape:=Shape.mk c 0 p 0 0 false false false just false (p.length:Int)
theorem zqC{c:Int}{p:uBl}(hpar:parS p=(tx c p false,0))(hne:p≠[])(hl:p.length<=80)(hsym:∀x∈p,syms.contains x=true)(hc:1<=c/\c<=3)(hsz:(tx c p false).uI=sizeV (tx c p false)):Good p (tx c p false) where
 par:=hpar
 ne:=hne
 len:=hl
 sym:=hsym
 pic:=rfl
 cat:=by show 1<=c/\c<=5;omega
 use:=rfl
 dig:=by show(0:Int)<=18;decide
 num:=fun h=>by have h:c=4:=h;omega
 sca:=by show(0:Int)<=18;decide
 led:=rfl
 sep:=rfl
 jus:=rfl
 bla:=rfl
 siz:=hsz
theorem zus{m:Nat}(h1:1<=m)(h2:m<=80):Good (List.replicate m 65) (tx 1 (List.replicate m 65) false)/\Good (List.replicate m 88) (tx 2 (List.replicate m 88) false):=by
 have hl:∀c:UInt8,(List.replicate m c).length=m:=fun c=>mM
 have hne:∀c:UInt8,List.replicate m c≠[]:=fun c e=>by have:=congrArg List.length e;rw[hl]at this;simp at this;omega
 have hsz:∀(c:UInt8)(k:Int),c≠86->(k=1\/k=2)->(tx k (List.replicate m c) false).uI=sizeV (tx k (List.replicate m c) false):=fun c k hc hk=>by
  unfold sizeV;rw[if_neg (show¬(tx k (List.replicate m c) false).uD=0 from fun e=>by have e:k=0:=e;omega),if_pos (show(tx k (List.replicate m c) false).uD≠4 from fun e=>by have e:k=4:=e;omega)];unfold szN;show((List.replicate m c).length:Int)=(((List.replicate m c).length-(List.replicate m c).count 86:Nat):Int)
  rw[uAO.2 (fun hm=>hc (uAV hm).symm),Nat.sub_zero]
 have cn:∀(set:uBl)(c:UInt8),set.contains c=true->cnt set (List.replicate m c)=(List.replicate m c).length:=fun set c h=>zcR fun x hx=>by rw[uAV hx];exact h
 refine⟨zqC ?_ (hne _) (by rw[hl];exact h2) (fun c hc=>by rw[uAV hc];decide) (by decide) (hsz 65 1 (by decide) (.inl rfl)),zqC ?_ (hne _) (by rw[hl];exact h2) (fun c hc=>by rw[uAV hc];decide) (by decide) (hsz 88 2 (by decide) (.inr rfl))⟩
 ·unfold parS zb4;rw[if_pos (cn [65] 65 (by decide))];rfl
 ·unfold parS zb4;have k1:¬cnt [65] (List.replicate m (88:UInt8))=(List.replicate m (88:UInt8)).length:=by
   obtain⟨k,rfl⟩:∃k,m=k+1:=⟨m-1,by omega⟩
   rw[nM,j3,if_neg (by decide),mK];omega
  have k2:¬(List.replicate m (88:UInt8)).countP zrT=0:=by
   obtain⟨k,rfl⟩:∃k,m=k+1:=⟨m-1,by omega⟩
   rw[nM,List.countP_cons_of_pos (by rfl)];omega
  rw[if_neg k1,if_neg k2,if_pos (cn [65,88,57] 88 (by decide))];rfl
theorem zxR{c:Int}{p:uBl}(hg:Good p (tx c p false))(hc:c=1\/c=2)(just:Bool):MS (tx c p just) p.length:=by
 have hpar:=zig hg;have hl:=hg.len;have hs:(p.length:Int)=sizeV (tx c p false):=hg.siz;have hs':(p.length:Int)=sizeV (tx c p just):=hs;refine⟨?_,by show p.length<=400;omega,rfl,by show 0<=c;omega,by show c<=5;omega,by show(0:Int)<=0;decide,by omega,fun _=>by omega⟩;have e1:yY (tx c p just)=0:=by unfold yY tx;dsimp only;rw[if_neg (by omega),if_neg (by omega),if_neg (by omega)]
 unfold chkV;rw[if_neg (fun k=>k e1),if_neg (show¬(tx c p just).uD=0 from fun e=>by have e:c=0:=e;omega)];unfold zdQ;rw[show(tx c p just).uC=p from rfl,hpar];unfold XG;have n4:c≠4:=by omega
 simp only[tx,ne_eq,not_true_eq_false,if_false,or_self,decide_false,nB,false_and,not_false_eq_true,n4];rw[if_neg (by rintro⟨_,e1,e2⟩;omega)];exact if_pos hs'
def gr(n:Nat):Shape:=Shape.mk 0 0 [] 0 0 false false false false false (n:Int)
theorem zzb{n:Nat}(h:n<=1000):MS (gr n) n:=by
 refine⟨?_,uAE _,rfl,Int.le_refl 0,show(0:Int)<=5 by decide,Int.le_refl 0,by omega,fun e=>absurd rfl e⟩;have e1:yY (gr n)=0:=by unfold yY gr;dsimp only;rw[if_neg (by omega),if_neg (by omega),if_neg (by omega)]
 have e2:zdn (gr n):=⟨rfl,rfl,rfl,rfl,rfl,rfl,rfl,rfl,rfl⟩
 unfold chkV;rw[if_neg (fun k=>k e1),if_pos (show(gr n).uD=0 from rfl),if_pos e2]
theorem zAr(l:uBl):shT (3::l)=tx 3 (picT (3::l)) false:=by
 unfold shT zgF;rw[if_neg]
 ·rfl
 ·intro h;have:=zk1 h 66 (by unfold picT;simp[sy6]);exact absurd this (by decide)
theorem zAe{l:uBl}(hl:l.length<=19):MS (tx 3 (picT (3::l)) false) (picT (3::l)).length:=by have hg:=zrW (l:=3::l) (by simpa using hl);rw[zAr]at hg;have:=hg.len;exact⟨zmG hg,by show(picT _).length<=400;omega,rfl,show(0:Int)<=3 by decide,show(3:Int)<=5 by decide,Int.le_refl 0,by omega,fun _=>by omega⟩
structure FX(x:F_64):Prop where
 k0:0<=x.vF
 d0:0<=x.vG
 d1:x.vG<=255
 p0:0<=x.vJ
 p1:x.vJ<=255
 f0:0<=x.vK
 f1:x.vK<=255
 s0:0<=x.wA
 o0:0<=x.wC
 w0:0<=x.wD
 m0:0<=x.wE
 n0:0<=x.wF
 t0:0<=x.wG
 a0:0<=x.wH
 ins:∀v∈x.wI,0<=v/\v<=65535
def fF(x:F_64):F:=F.mk x.vG x.vJ x.vK x.vN x.wJ
def fE(x:F_64):E:=E.mk x.wA x.wC x.wD x.wE x.wF x.wG x.wH x.wI x.wM
theorem zbV{N:Nat}{sym:UInt8}{x:F_64}{b1:Shape}{c:Int}{m:Nat}(hm:m<=1000):∀(k i:Nat),i<=m->m-i<k->
  QI N k [sym] (i:Int) x b1 (Shape.mk c 0 (List.replicate i sym) 0 0 false false false false false (m:Int))=some (tx c (List.replicate m sym) x.uM)
 |0,i,_,hk=>by omega
 |k+1,i,hi,hk=>by
  show K6 N (QI N k) [sym] _ x b1 _=_;unfold K6;dsimp only;rw[zb];by_cases h:i<m
  ·rw[if_pos (by omega),qo (by simp;omega),za,zn (by omega) (by omega),za,<-List.replicate_succ',show(i:Int)+1=((i+1:Nat):Int)by omega];exact zbV hm k (i+1) (by omega) (by omega)
  ·have:i=m:=by omega
   subst this;rw[if_neg (by omega)];unfold tx;rw[mM]
theorem zyH{c:UInt8}:atS ([[88],[65],[57],[66],[48],[47]]:List uBl) ((c.toNat:Int)%6)=[sy6 c]:=by
 unfold atS sy6;rw[show((c.toNat:Int)%6).toNat=c.toNat%6 by omega];have h:c.toNat%6<6:=uA5 _ (by decide);generalize c.toNat%6=j at h;rcases j with _|_|_|_|_|_|j
 all_goals first|rfl|omega
theorem zbU{N:Nat}{x:F_64}{b1:Shape}{n:Nat}(hn:n<=x.uO.length)(h24:n<=24)(z:Int):∀(k i:Nat),i<=min n 12->min n 12-i<k->
  QH N k (n:Int) (i:Int) x b1 (Shape.mk 3 0 (picT (3::x.uO.take i)) 0 0 false false false false false z)=some (tx 3 (picT (3::x.uO.take (min n 12))) false)
 |0,i,_,hk=>by omega
 |k+1,i,hi,hk=>by
  show K5 N (QH N k) _ _ x b1 _=_;unfold K5;dsimp only;have hlen:(picT (3::x.uO.take i)).length<=100:=by unfold picT;simp;omega
  rw[zb];by_cases h:i<min n 12
  ·have hit:i<x.uO.length:=by omega
   have hnn:(zh (byteAt x.uO (i:Int))&&decide ((0:Int)<6))=true:=by show(zh (((x.uO.getD i 0).toNat:Nat):Int)&&_)=true;unfold zh;rw[decide_eq_true (by omega)];rfl
   have hb:byteAt x.uO (i:Int)=(((x.uO.getD i 0).toNat:Nat):Int):=rfl;rw[if_pos (by omega),zb,if_pos (by omega),zw.2 ⟨by omega,by omega⟩,za];have hnn':(zh (byteAt x.uO (i:Int))&&decide (0<6))=true:=hnn;rw[hnn',za,hb,zw.2 ⟨by omega,by show _<((6:Nat):Int);omega⟩,za,za,zyH,qo (by simp;omega),za,zn (by omega) (by omega),za];have e:picT (3::x.uO.take i)++[sy6 (x.uO.getD i 0)]=picT (3::x.uO.take (i+1)):=by rw[znT hit];unfold picT;simp
   rw[e,show(i:Int)+1=((i+1:Nat):Int)by omega];exact zbU hn h24 z k (i+1) (by omega) (by omega)
  ·have:i=min n 12:=by omega
   subst this;by_cases h2:(((min n 12:Nat):Nat):Int)<(n:Int)
   ·rw[if_pos h2,zb,if_neg (by omega)];rfl
   ·rw[if_neg h2];rfl
theorem zud(a b:Nat):Wc (a:Int) (b:Int)=((min a b:Nat):Int):=by unfold Wc;split<;>omega
theorem ziK{N:Nat}(hN:3000<N){x:F_64}(hx:FX x):∃s z,zgY N x=some s/\MS s z/\z<=400/\s.uD=x.vF%6/\(s.uD=3->z=s.uC.length)/\
  (s.uD=4->YM N (fF x)=some s)/\(s.uD=5->Xq N (fE x)=some s):=by
 have hk:=hx.k0;obtain⟨k,hk6⟩:=W7 (k:=6) hk (by decide);have hlt:k<6:=by omega
 have hn:Wc ((x.uO).length:Int) 24=((min x.uO.length 24:Nat):Int):=zud _ 24;obtain⟨n,hn'⟩:∃n,n=min x.uO.length 24:=⟨_,rfl⟩
 rw[<-hn']at hn;have hn24:n<=24:=by omega
 have hm:js (n:Int) 1=((max n 1:Nat):Int):=by unfold js;split<;>omega
 have key:∀t:Bool,t=decide ((k:Int)=1\/(k:Int)=2)->∃s z,QK N (n:Int) (k:Int) t x z0 (Shape.mk (k:Int) 0 [] 0 0 false false false false false (n:Int))=some s/\MS s z/\z<=400/\s.uD=(k:Int)/\(s.uD=3->z=s.uC.length)/\
   (s.uD=4->YM N (fF x)=some s)/\(s.uD=5->Xq N (fE x)=some s):=by
  intro t ht;unfold QK;dsimp only;have txt:∀(c:Int)(sym:UInt8),(c=1/\sym=65\/c=2/\sym=88)->∃s z,QJ N (n:Int) [sym] x z0 (Shape.mk c 0 [] 0 0 false false false false false (n:Int))=some s/\MS s z/\z<=400/\s.uD=c/\(s.uD=3->z=s.uC.length)/\
    (s.uD=4->YM N (fF x)=some s)/\(s.uD=5->Xq N (fE x)=some s):=by
   intro c sym hc;have hg:=zus (m:=max n 1) (by omega) (by omega);refine⟨tx c (List.replicate (max n 1) sym) x.uM,max n 1,?_,?_,?_,rfl,fun e=>?_,fun e=>?_,fun e=>?_⟩
   ·unfold QJ;dsimp only;rw[hm];exact zbV (by omega) N 0 (by omega) (by omega)
   ·rcases hc with⟨rfl,rfl⟩|⟨rfl,rfl⟩
    ·have:=zxR hg.1 (.inl rfl) x.uM;rwa [mM]at this
    ·have:=zxR hg.2 (.inr rfl) x.uM;rwa [mM]at this
   ·omega
   ·have e:c=3:=e;omega
   ·have e:c=4:=e;omega
   ·have e:c=5:=e;omega
  cases t with
  |true=>
   have ht:=of_decide_eq_true ht.symm;rw[cond_true,zb];by_cases h2:(k:Int)=2
   ·rw[if_pos h2,h2];exact txt 2 88 (.inr ⟨rfl,rfl⟩)
   ·rw[if_neg h2];have h1:(k:Int)=1:=by omega
    rw[h1];exact txt 1 65 (.inl ⟨rfl,rfl⟩)
  |false=>
   have ht:=of_decide_eq_false ht.symm;rw[cond_false,zb];by_cases h3:(k:Int)=3
   ·rw[if_pos h3,h3];have hl3:=zbU (N:=N) (x:=x) (b1:=z0) (n:=n) (by omega) hn24 (n:Int) N 0 (by omega) (by omega);refine⟨tx 3 (picT (3::x.uO.take (min n 12))) false,(picT (3::x.uO.take (min n 12))).length,hl3,zAe (by rw[mJ];omega),?_,rfl,fun _=>rfl,(fun e=>by cases e),(fun e=>by cases e)⟩;unfold picT;simp;omega
   ·rw[if_neg h3,zb];by_cases h4:(k:Int)=4
    ·rw[if_pos h4,h4];have hf:=zim (N:=N) hN (x:=fF x) (dg:=x.vG.toNat) (fm:=x.vK.toNat) (pt:=x.vJ.toNat) (by have:=hx.d0;show x.vG=_;omega) (by have:=hx.f0;show x.vK=_;omega) (by have:=hx.f1;omega) (by have:=hx.p0;show x.vJ=_;omega) (by have:=hx.p1;omega) (by have:=hx.d1;omega);have h1:1<=x.vG.toNat%18+1:=by omega
     have h2:x.vG.toNat%18+1<=18:=by omega
     obtain⟨g1,g2,g3⟩:=zs3 (pt:=x.vJ.toNat) (fm:=x.vK.toNat) h1 h2;obtain⟨z,hz⟩:=zxY g2 g3 (by rw[g1.cat];decide) (by rcases g1.use with e|e|e<;>rw[e]<;>decide);have hcat:=g1.cat;refine⟨shX (x.vG.toNat%18+1) x.vJ.toNat x.vK.toNat,z,?_,hz,hz.zl (by rw[hcat];decide),hcat,(fun e=>by rw[hcat]at e;cases e),fun _=>hf,(fun e=>by rw[hcat]at e;cases e)⟩;show bnd (YM N (fF x)) _=_;rw[hf,zc]
    ·rw[if_neg h4,zb];by_cases h5:(k:Int)=5
     ·rw[if_pos h5,h5];obtain⟨sg,w,mn,ni,pt,pa,hp⟩:=zxW (x:=fE x) hx.s0 hx.o0 hx.w0 hx.m0 hx.n0 hx.t0 hx.a0;obtain⟨s,n',sc,g,e1,e2,e3,e4,e5⟩:=ziu hN hp hx.ins;have hcat:=e3.cat;have hu:s.uG=0:=by
       have:=znh e2;apply Classical.byContradiction;intro hu;unfold chkV at e2;rw[if_neg (fun h=>h this),if_neg (by omega)]at e2;unfold zdQ at e2;split at e2
       ·rename_i hh;exact hh e2
       ·split at e2
        ·cases e2
        ·unfold XG at e2;split at e2
         ·cases e2
         ·rw[if_pos ⟨hu,by omega⟩]at e2;cases e2
      obtain⟨z,hz⟩:=zxY e2 (by omega) (by rw[hcat];decide) (by omega);refine⟨s,z,?_,hz,hz.zl (by rw[hcat];decide),hcat,(fun e=>by rw[hcat]at e;cases e),(fun e=>by rw[hcat]at e;cases e),fun _=>e1⟩;show bnd (Xq N (fE x)) _=_;rw[e1,zc]
     ·have hk0:k=0:=by omega
      subst hk0;rw[if_neg h5];exact⟨gr n,n,rfl,zzb (by omega),by omega,rfl,(fun e=>by cases e),(fun e=>by cases e),(fun e=>by cases e)⟩
 have hnn:(zh x.vF&&decide (0<6))=true:=by unfold zh;rw[decide_eq_true hk];rfl
 unfold zgY;rw[hnn,za,hn,hk6,zb];by_cases h1:(k:Int)=1
 ·rw[if_pos h1];exact key _ (decide_eq_decide.2 ⟨fun e=>.inl e,fun _=>h1⟩)
 ·rw[if_neg h1];exact key _ (decide_eq_decide.2 ⟨fun e=>.inr e,fun e=>by rcases e with e|e;exact absurd e h1;exact e⟩)
end Go.Proofs.C06
end
section
set_option maxRecDepth 100000
namespace Go.Proofs.C06
open Go Go.RowKit Go.Vc Go.Am Go.Dg
theorem zqM{N:Nat}(hN:3000<N){x:F}(h1:0<=x.uA)(h2:x.uA<=255)(h3:0<=x.uL)(h4:x.uL<=255)(h5:0<=x.uP)(h6:x.uP<=255):
  ∃s n ng l,YM N x=some s/\NS s n/\chkV s=0/\s.uC.length<=400/\Digs l/\l.length=n/\(ng=true->s.uE=true/\val l≠0)/\fOf N x=some (fld s (wr s n ng l)):=by
 have hsh:=zim (N:=N) hN (x:=x) (dg:=x.uA.toNat) (fm:=x.uP.toNat) (pt:=x.uL.toNat) (by omega) (by omega) (by omega) (by omega) (by omega) (by omega);obtain⟨n,hn⟩:∃n,n=x.uA.toNat%18+1:=⟨_,rfl⟩
 obtain⟨l,ht,hd,hl⟩:=zmL (N:=N) hN (x:=x) h1;rw[<-hn]at hsh hl;obtain⟨hns,hc,hp⟩:=zs3 (n:=n) (pt:=x.uL.toNat) (fm:=x.uP.toNat) (by omega) (by omega);generalize shX n x.uL.toNat x.uP.toNat=s at hsh hns hc hp;have h18:=hns.n18;have hsc1:=hns.sc1;have hsc2:=hns.sc2;obtain⟨ng,hng⟩:∃ng,ng=(x.uN&&(s.uE&&decide (val l≠0))):=⟨_,rfl⟩
 refine⟨s,n,ng,l,hsh,hns,hc,hp,hd,hl,?_,?_⟩
 ·intro e;rw[hng]at e;simp only[mE,decide_eq_true_eq]at e;exact e.2
 ·unfold fOf;rw[hsh,zc,ht,zc,zrP hN hns hd hl x.uN,zc,<-hng];rfl
end Go.Proofs.C06
end
section
set_option maxRecDepth 100000
namespace Go.Proofs.C06
open Go Go.RowKit Go.Vc Go.Am Go.Dg
end Go.Proofs.C06
end
section
set_option maxRecDepth 100000
namespace Go.Proofs.C06
open Go Go.RowKit Go.Vc Go.Am Go.Dg
theorem ziL{N:Nat}{x:F_64}{s:Shape}{z:Nat}(hs:s.uI=(z:Int))(hz:z<=1000000):∀(k i:Nat)(L:uBl),i<=z->z-i<k->L.length=z->
  ∃b,zc3 N k (i:Int) x 0 0 [] 0 0 false false false false false 0 s s.uD s.uG s.uC s.uA s.uB s.uE s.uJ s.uK s.uM s.uH s.uI L=some (fld s b)/\b.length=z
 |0,i,_,_,hk,_=>by omega
 |k+1,i,L,hi,hk,hL=>by
  show∃b,zgZ N (zc3 N k) _ x 0 0 [] 0 0 false false false false false 0 s _ _ _ _ _ _ _ _ _ _ _ L=some (fld s b)/\_;unfold zgZ;rw[hs,zb];by_cases h:i<z
  ·have hi1:(i:Int)+1=((i+1:Nat):Int):=by omega
   have ih:∀L':uBl,L'.length=z->∃b,zc3 N k ((i+1:Nat):Int) x 0 0 [] 0 0 false false false false false 0 s s.uD s.uG s.uC s.uA s.uB s.uE s.uJ s.uK s.uM s.uH (z:Int) L'=some (fld s b)/\b.length=z:=fun L' hL'=>by have:=ziL (N:=N) (x:=x) hs hz k (i+1) L' (by omega) (by omega) hL';rwa [hs]at this
   rw[if_pos (by omega),zw.2 ⟨by omega,by omega⟩,za];rw[show chk (true&&inKb .u8 32)=chk (true:Bool) (α:=Field)from rfl,za,zb];by_cases ht:0<(x.uO.length:Int)
   ·have hnn:(zh (i:Int)&&decide (0<(x.uO.length:Int)))=true:=by unfold zh;rw[decide_eq_true ht,decide_eq_true (by omega)];rfl
    have hmod:(i:Int)% (x.uO.length:Int)=((i%x.uO.length:Nat):Int):=by omega
    have hml:i%x.uO.length<x.uO.length:=uA5 _ (by omega);have hbt:byteAt x.uO ((i%x.uO.length:Nat):Int)=(((x.uO.getD (i%x.uO.length) 0).toNat:Nat):Int):=rfl;rw[if_pos ht,hnn,za,hmod,zw.2 ⟨by omega,by omega⟩,za,uAM,zw.2 ⟨by omega,by omega⟩,za,hbt,ZC,uAH,za,zn (by omega) (by omega),za,hi1];exact ih _ (by rw[uAM,uAM,hL])
   ·rw[if_neg ht,zn (by omega) (by omega),za,hi1];exact ih _ (by rw[uAM,hL])
  ·have:i=z:=by omega
   subst this;rw[if_neg (by omega)];exact⟨L,by rw[<-hs];rfl,hL⟩
theorem zpS{N:Nat}(hN:3000<N){x:F_64}(hx:FX x):∃s z b,zgY N x=some s/\MS s z/\z<=400/\s.uD=x.vF%6/\FOf N x=some (fld s b)/\b.length=z:=by
 obtain⟨s,z,e1,hm,hz,hc,_,h4,h5⟩:=ziK hN hx;have hS:=hm.siz;unfold FOf;rw[e1];by_cases c4:s.uD=4
 ·obtain⟨s',n,ng,l,f1,hs,hchk,hp,hd,hl,hng,f2⟩:=zqM hN (x:=fF x) hx.d0 hx.d1 hx.p0 hx.p1 hx.f0 hx.f1;rw[h4 c4]at f1;cases f1;refine⟨s,z,wr s n ng l,rfl,hm,hz,hc,?_,?_⟩
  ·rw[zc,decide_eq_true c4,cond_true];show bnd (fOf N (fF x)) _=_;rw[f2,zc]
  ·rw[(zxV hs hd hl hng).2,hm.sz4 hs]
 ·by_cases c5:s.uD=5
  ·obtain⟨sg,w,mn,ni,pt,pa,hp⟩:=zxW (x:=fE x) hx.s0 hx.o0 hx.w0 hx.m0 hx.n0 hx.t0 hx.a0;obtain⟨s',n,sc,g,f1,f2,hES,h12,f5⟩:=ziu hN hp hx.ins;rw[h5 c5]at f1;cases f1;obtain⟨l,e2,hld,hll⟩:=zmL hN (x:=fF x) hx.d0;obtain⟨d1,d2,d3⟩:=zz6 hld h12;have hsc:=hES.scn;have hn1:=hES.n1;have hll2:l.length<=18:=by rw[hll];have:=uA5 (fF x).uA.toNat (show 0<18 by decide);omega
   generalize hds:(l++qD).take n=ds at d1 d2;have hq:val ds<10^n:=by have:=jV d1;rwa [d2]at this
   refine⟨s,z,zsj s (fmt n (val ds)) (x.vN&&decide (val ds≠0)),rfl,hm,hz,hc,?_,?_⟩
   ·rw[zc,decide_eq_false c4,cond_false,decide_eq_true c5,cond_true];show bnd (zil N (fF x)) _=_;have htk:jm (l++qD) (n:Int)=ds:=hds;rw[e2,zc];show chk (zS l qD) (chk (zk 0 s.uA (l++qD).length) (bnd (zcx N x.vN (jm (l++qD) s.uA) s.uB) _))=_;rw[qo (by show _+12<=_;omega),za,hES.dig,d3,za,htk,hES.scl,zyl hN x.vN d1 (by omega) (by omega),zc,zvq hN hES f2 x.vN hq,zc];rw[<-hES.dig,<-hES.scl];rfl
   ·have:=zuW hES (qM n (val ds)) (jG n (val ds)) (x.vN&&decide (val ds≠0));omega
  ·obtain⟨b,g1,g2⟩:=ziL (N:=N) (x:=x) hS (by omega) N 0 (List.replicate z 0) (uAE _) (by omega) mM;refine⟨s,z,b,rfl,hm,hz,hc,?_,g2⟩;rw[zc,decide_eq_false c4,cond_false,decide_eq_false c5,cond_false];have hrep:(List.replicate s.uI.toNat (0:UInt8))=List.replicate z 0:=by rw[hS,nA]
   have hmk:(zj1 1 s.uI&&decide (s.uI=s.uI))=true:=by rw[hS];exact zzU (by omega)
   rw[hmk,za,hrep];exact g1
end Go.Proofs.C06
end
section
set_option maxRecDepth 100000
namespace Go.Proofs.C06
open Go Go.RowKit Go.Vc Go.Am Go.Dg
end Go.Proofs.C06
end
section
set_option maxRecDepth 100000
namespace Go.Proofs.C06
open Go Go.RowKit Go.Vc Go.Am Go.Dg
def sp(c:UInt8):Bool:=([32]:uBl).contains c
end Go.Proofs.C06
end
section
set_option maxRecDepth 100000
namespace Go.Proofs.C06
open Go Go.RowKit Go.Vc Go.Am Go.Dg
theorem zrY{s:Shape}{n:Nat}(h:NS s n)(hs:s.uB<=0){b:uBl}(h0:(yf s n b).2=0):
  KC (yf s n b).1 (lenT s) 0/\(yf s n b).1.uA.length<=lenT s/\
  List.replicate (lenT s-(yf s n b).1.uA.length) 48++(yf s n b).1.uA=fmt (lenT s) (quo (val (yf s n b).1.uA) (yf s n b).1.uB.toNat 0):=by
 have h1:=h.n1;have h18:=h.n18;have hsc:=h.sc1;have hlt:lenT s=n+(-s.uB).toNat:=by unfold lenT;rw[h.nat]
 unfold yf at h0⊢;by_cases hr:(Yg s n b).2=0
 ·rw[if_pos hr];obtain⟨r1,r2,r3⟩:=WU h hr;rw[r3];obtain⟨d1,d2⟩:=zjf h r1 r2;dsimp only;generalize hx:(rd s n b).1.s=x at d1 d2;generalize (rd s n b).1.neg=ng;have hv:val x*10^(-s.uB).toNat<10^lenT s:=by rw[hlt,uA4];have:=jV d1;rw[d2]at this;exact Nat.mul_lt_mul_of_pos_right this (pow_pos _)
  generalize hV:val x*10^(-s.uB).toNat=v at hv;have hz:s.uB.toNat=0:=by omega
  have hnum:zrF s ng x=yU (zp ng v 0):=by unfold zrF;rw[hV,hz]
  rw[hnum];have c0:(zp ng v 0).2.2=0:=by have:=yK ng v 0;omega
  have cv:val (zp ng v 0).2.1=v:=by have:=zcT ng v 0;rw[c0,nU,mV,mV]at this;exact this
  have cl:(zp ng v 0).2.1.length<=lenT s:=Jn (by omega) hv;have cs:(yU (zp ng v 0)).uB.toNat=0:=by show(((zp ng v 0).2.2:Nat):Int).toNat=0;omega
  show KC (yU (zp ng v 0)) _ _/\(zp ng v 0).2.1.length<=_/\List.replicate (lenT s-(zp ng v 0).2.1.length) 48++(zp ng v 0).2.1=fmt (lenT s) (quo (val (zp ng v 0).2.1) (yU (zp ng v 0)).uB.toNat 0);have q0:quo (val (zp ng v 0).2.1) (yU (zp ng v 0)).uB.toNat 0=v:=by rw[cs,cv];unfold quo;show v*10^0/10^0=v;simp
  refine⟨⟨?_,?_⟩,cl,?_⟩
  ·show exact (val (zp ng v 0).2.1) (yU (zp ng v 0)).uB.toNat 0;rw[cs];unfold exact;show _%10^0=0;rw[nU,Nat.mod_one]
  ·show quo (val (zp ng v 0).2.1) (yU (zp ng v 0)).uB.toNat 0<_;rw[q0];exact hv
  ·rw[q0];refine zo5 (Digs.append.2 ⟨Digs.zeros _,zgH _ _ _⟩) (by rw[mO,mM];omega) ?_;rw[yL,cv]
 ·rw[if_neg hr]at h0;exact absurd h0 hr
end Go.Proofs.C06
end
section
set_option maxRecDepth 100000
namespace Go.Proofs.C06
open Go Go.RowKit Go.Vc Go.Am Go.Dg
end Go.Proofs.C06
end
section
set_option maxRecDepth 100000
namespace Go.Proofs.C06
open Go Go.RowKit Go.Vc Go.Am Go.Dg
def zdO(b:uBl)(i:Nat):Int:=if i<b.length then byteAt b (i:Int)else 32
def zdV(x y:Int):Int:=if x<y then-1 else if y<x then 1 else 0
def zdW(a b:uBl):Nat->Nat->Int
 |0,_=>0
 |k+1,i=>if zdV (zdO a i) (zdO b i)≠0 then zdV (zdO a i) (zdO b i)else zdW a b k (i+1)
def zsr(a b:uBl):Int:=zdW a b (max a.length b.length) 0
theorem zzr(x y:Int): -1<=zdV x y/\zdV x y<=1:=by unfold zdV;split<;>(try split)<;>omega
theorem zu7(a b:uBl):∀k i,-1<=zdW a b k i/\zdW a b k i<=1
 |0,_=>by unfold zdW;omega
 |k+1,i=>by
  unfold zdW;split
  ·exact zzr _ _
  ·exact zu7 a b k (i+1)
theorem zpA(N:Nat)(x y:Int):zeY N x y=some (zdV x y):=by
 unfold zeY zkl zdV;simp only[decide_true,uAL,zc,cond_false];rw[zb];split
 ·rfl
 ·rw[zb];split<;>rfl
theorem zgL(N:Nat)(b:uBl)(i:Nat):zbG N b (i:Int)=some (zdO b i):=by
 unfold zbG zdO;rw[zb];by_cases h:i<b.length
 ·rw[if_neg (by omega),if_pos h,zw.2 ⟨by omega,by omega⟩,za]
 ·rw[if_pos (by omega),if_neg h]
theorem WH{N:Nat}{a b:uBl}{M:Nat}(hM:M<=1000000):∀(k' k i:Nat),i+k=M->k<k'->ZO N k' a b (M:Int) (i:Int)=some (zdW a b k i)
 |0,_,_,_,h=>by omega
 |k'+1,k,i,hi,hk=>by
  show YT N (ZO N k') a b (M:Int) (i:Int)=_;unfold YT;rw[zb];cases k with
  |zero=>rw[if_neg (by omega)];rfl
  |succ k=>
   rw[if_pos (by omega),zgL,zc,zgL,zc,zpA,zc,zg];unfold zdW;by_cases h0:zdV (zdO a i) (zdO b i)=0
   ·rw[if_pos h0,if_neg (fun e=>e h0),zn (by omega) (by omega),za,show(i:Int)+1=((i+1:Nat):Int)by omega];exact WH hM k' k (i+1) (by omega) (by omega)
   ·rw[if_neg h0,if_pos h0]
theorem zdB{N:Nat}{a b:uBl}(ha:a.length<N)(hb:b.length<N)(hN:N<=1000000):KX N a b=some (zsr a b):=by
 unfold KX zsr;have e:js (a.length:Int) (b.length:Int)=((max a.length b.length:Nat):Int):=by unfold js;split<;>omega
 rw[e,show(0:Int)=((0:Nat):Int)from rfl];exact WH (by omega) N _ 0 (by omega) (by omega)
def ntV(s:Shape)(b:uBl)(g:Bool):uBl×Int:=if s.uD≠4\/g=true then(b,0)else if 0<s.uB then([],12)else if(yf s s.uA.toNat b).2≠0 then([],(yf s s.uA.toNat b).2)else if KC (yf s s.uA.toNat b).1 (lenT s) 0 then(fmt (lenT s) (quo (val (yf s s.uA.toNat b).1.uA) (yf s s.uA.toNat b).1.uB.toNat 0),0)else([],14)
theorem za1{N:Nat}(hN:3000<N){s:Shape}{z:Nat}(h:MS s z){b:uBl}(hb:b.length=z)(hz:z<=400)(g:Bool):zfP N (fld s b) g=some (ntV s b g)/\(ntV s b g).1.length<=400:=by
 unfold zfP ntV;show cond (!decide (s.uD=4)) _ _=_/\_;rw[zg];by_cases h4:s.uD=4
 ·rw[if_pos h4];cases g with
  |true=>rw[cond_true,if_pos (.inr rfl)];exact⟨rfl,by rw[hb];exact hz⟩
  |false=>
   rw[cond_false,if_neg (by rintro(e|e);exact e h4;cases e)];show cond (decide (0<s.uB)) _ _=_/\_;rw[zb];by_cases hs0:0<s.uB
   ·rw[if_pos hs0,if_pos hs0];exact⟨rfl,uAE _⟩
   ·rw[if_neg hs0,if_neg hs0];obtain⟨n,hn⟩:=zh0 h.chk h4 h.u0;have hz3:=Vj hn;rw[<-h.sz4 hn]at hz3;rw[hn.nat,Vi hN hn h.chk h.pic (by omega),zc,zg];by_cases hg:(yf s n b).2=0
    ·have hs1:=hn.sc1;have h18:=hn.n18;have h1:=hn.n1;have hdg:=hn.dig;have el:(s.uA-s.uB)=((lenT s:Nat):Int):=by unfold lenT;omega
     have elt:lenT s=n+(-s.uB).toNat:=by unfold lenT;rw[hn.nat]
     rw[if_pos hg,if_neg (fun e=>e hg)];show chk (inKb .i64 (s.uA-s.uB)) (bnd (Vo N (yf s n b).1 (s.uA-s.uB) 0) _)=_/\_;rw[el,zn (by omega) (by omega),za,zfx hN (VI hn hg) (by omega) (by omega) (by decide) (by decide),zc];refine⟨rfl,?_⟩;split
     ·show(fmt _ _).length<=_;rw[jG];omega
     ·show([]:uBl).length<=_;decide
    ·rw[if_neg hg,if_pos hg];exact⟨rfl,uAE _⟩
 ·rw[if_neg h4,if_pos (.inl h4)];exact⟨rfl,by rw[hb];exact hz⟩
def cmV(s:Shape)(b:uBl)(t:Shape)(c:uBl):Int×Int:=if s.uD=4/\t.uD=4 then if(yf s s.uA.toNat b).2≠0 then(0,(yf s s.uA.toNat b).2)else if(yf t t.uA.toNat c).2≠0 then(0,(yf t t.uA.toNat c).2)else(zkV (yf s s.uA.toNat b).1 (yf t t.uA.toNat c).1,0)else if(ntV s b (decide (t.uD=0))).2≠0 then(0,(ntV s b (decide (t.uD=0))).2)else if(ntV t c (decide (s.uD=0))).2≠0 then(0,(ntV t c (decide (s.uD=0))).2)else(zsr (ntV s b (decide (t.uD=0))).1 (ntV t c (decide (s.uD=0))).1,0)
theorem Kg{N:Nat}(hN:3000<N)(hN2:N<=1000000){s t:Shape}{z z':Nat}(h:MS s z)(h':MS t z')(hz:z<=400)(hz':z'<=400){b c:uBl}(hb:b.length=z)(hc:c.length=z'):
  qI N (fld s b) (fld t c)=some (cmV s b t c):=by
 unfold qI;show bnd (zbW N s) _=_;rw[VZ (by omega) h.pic,h.chk,zc,decide_eq_true rfl,uAL,cond_false];show bnd (zbW N t) _=_;rw[VZ (by omega) h'.pic,h'.chk,zc,decide_eq_true rfl,uAL,cond_false];show cond (!decide ((b.length:Int)=s.uI)) _ (cond (!decide ((c.length:Int)=t.uI)) _ (cond (decide (s.uD=4)) (yB N (decide (t.uD=4)) _ _) (yB N false _ _)))=_;rw[decide_eq_true (by rw[h.siz,hb]),uAL,cond_false,decide_eq_true (by rw[h'.siz,hc]),uAL,cond_false,zb];have k:∀x:Bool,x=decide (s.uD=4/\t.uD=4)->yB N x (fld s b) (fld t c)=some (cmV s b t c):=by
  intro x hx;unfold yB cmV;by_cases h44:s.uD=4/\t.uD=4
  ·rw[hx,decide_eq_true h44,cond_true,if_pos h44];obtain⟨n,hn⟩:=zh0 h.chk h44.1 h.u0;obtain⟨m,hm⟩:=zh0 h'.chk h44.2 h'.u0;have hz3:=Vj hn;rw[<-h.sz4 hn]at hz3;have hz4:=Vj hm;rw[<-h'.sz4 hm]at hz4;rw[hn.nat,hm.nat,Vi hN hn h.chk h.pic (by omega),zc,zg];by_cases g1:(yf s n b).2=0
   ·rw[if_pos g1,if_neg (fun e=>e g1),Vi hN hm h'.chk h'.pic (by omega),zc,zg];by_cases g2:(yf t m c).2=0
    ·rw[if_pos g2,if_neg (fun e=>e g2),zdy hN (VI hn g1) (VI hm g2),zc]
    ·rw[if_neg g2,if_pos g2]
   ·rw[if_neg g1,if_pos g1]
  ·rw[hx,decide_eq_false h44,cond_false,if_neg h44];obtain⟨t1,t2⟩:=za1 hN h hb hz (decide (t.uD=0));obtain⟨t3,t4⟩:=za1 hN h' hc hz' (decide (s.uD=0));show bnd (zfP N (fld s b) (decide (t.uD=0))) _=_;rw[t1,zc,zg];by_cases g1:(ntV s b (decide (t.uD=0))).2=0
   ·rw[if_pos g1,if_neg (fun e=>e g1)];show bnd (zfP N (fld t c) (decide (s.uD=0))) _=_;rw[t3,zc,zg];by_cases g2:(ntV t c (decide (s.uD=0))).2=0
    ·rw[if_pos g2,if_neg (fun e=>e g2),zdB (by omega) (by omega) hN2,zc]
    ·rw[if_neg g2,if_pos g2]
   ·rw[if_neg g1,if_pos g1]
 by_cases h4:s.uD=4
 ·rw[if_pos h4];exact k _ (by rw[decide_eq_decide];exact⟨fun e=>⟨h4,e⟩,fun e=>e.2⟩)
 ·rw[if_neg h4];exact k _ (by rw[decide_eq_false (fun e=>h4 e.1)])
theorem zz8(s:Shape)(b:uBl)(t:Shape)(c:uBl): -1<=(cmV s b t c).1/\(cmV s b t c).1<=1:=by
 unfold cmV;have hD:∀x y:Decimal,-1<=zkV x y/\zkV x y<=1:=fun x y=>by
  have hv:∀a b,-1<=zho a b/\zho a b<=1:=fun a b=>by unfold zho;split<;>(try split)<;>omega
  unfold zkV;split
  ·split
   ·exact hv _ _
   ·exact hv _ _
  ·split<;>omega
 split
 ·split
  ·exact⟨by show(-1:Int)<=0;decide,by show(0:Int)<=1;decide⟩
  ·split
   ·exact⟨by show(-1:Int)<=0;decide,by show(0:Int)<=1;decide⟩
   ·exact hD _ _
 ·split
  ·exact⟨by show(-1:Int)<=0;decide,by show(0:Int)<=1;decide⟩
  ·split
   ·exact⟨by show(-1:Int)<=0;decide,by show(0:Int)<=1;decide⟩
   ·exact zu7 _ _ _ _
end Go.Proofs.C06
end
section
set_option maxRecDepth 100000
namespace Go.Proofs.C06
open Go Go.RowKit Go.Vc Go.Am Go.Dg
theorem zso(x y:Int):zdV y x= -zdV x y:=by unfold zdV;split<;>(try split)<;>(try split)<;>omega
theorem ziy(x y:Nat):zho y x= -zho x y:=by unfold zho;split<;>(try split)<;>(try split)<;>omega
theorem ziA(a b:uBl):∀k i,zdW b a k i= -zdW a b k i
 |0,_=>by unfold zdW;rfl
 |k+1,i=>by
  unfold zdW;rw[zso (zdO a i) (zdO b i),ziA a b k (i+1)];by_cases h:zdV (zdO a i) (zdO b i)=0
  ·rw[if_neg (by omega),if_neg (by omega)]
  ·rw[if_pos (by omega),if_pos h]
theorem zsq(a b:uBl):zsr b a= -zsr a b:=by unfold zsr;rw[Nat.max_comm,ziA a b]
theorem zsp(a b:Decimal):zkV b a= -zkV a b:=by
 unfold zkV;have hm:maxS b a=maxS a b:=Nat.max_comm _ _;rw[hm];cases a.uN<;>cases b.uN
 ·rw[if_pos rfl,if_pos rfl,if_neg (by decide)];exact ziy _ _
 ·rfl
 ·rfl
 ·rw[if_pos rfl,if_pos rfl,if_pos rfl];exact ziy _ _
theorem znc(s:Shape)(b:uBl)(t:Shape)(c:uBl):(cmV t c s b).1= -(cmV s b t c).1/\((cmV s b t c).2=0↔(cmV t c s b).2=0):=by
 unfold cmV;by_cases h44:s.uD=4/\t.uD=4
 ·rw[if_pos h44,if_pos ⟨h44.2,h44.1⟩];by_cases g1:(yf s s.uA.toNat b).2=0<;>by_cases g2:(yf t t.uA.toNat c).2=0
  ·rw[if_neg (fun e=>e g2),if_neg (fun e=>e g1),if_neg (fun e=>e g1),if_neg (fun e=>e g2)];exact⟨zsp _ _,Iff.rfl⟩
  ·rw[if_pos g2,if_neg (fun e=>e g1),if_pos g2];exact⟨rfl,Iff.rfl⟩
  ·rw[if_neg (fun e=>e g2),if_pos g1,if_pos g1];exact⟨rfl,Iff.rfl⟩
  ·rw[if_pos g2,if_pos g1];exact⟨rfl,⟨fun e=>absurd e g1,fun e=>absurd e g2⟩⟩
 ·rw[if_neg h44,if_neg (fun e=>h44 ⟨e.2,e.1⟩)];by_cases g1:(ntV s b (decide (t.uD=0))).2=0<;>by_cases g2:(ntV t c (decide (s.uD=0))).2=0
  ·rw[if_neg (fun e=>e g2),if_neg (fun e=>e g1),if_neg (fun e=>e g1),if_neg (fun e=>e g2)];exact⟨zsq _ _,Iff.rfl⟩
  ·rw[if_pos g2,if_neg (fun e=>e g1),if_pos g2];exact⟨rfl,Iff.rfl⟩
  ·rw[if_neg (fun e=>e g2),if_pos g1,if_pos g1];exact⟨rfl,Iff.rfl⟩
  ·rw[if_pos g2,if_pos g1];exact⟨rfl,⟨fun e=>absurd e g1,fun e=>absurd e g2⟩⟩
theorem zu8{t:Shape}{c:uBl}(hg:t.uD=4->(yf t t.uA.toNat c).2=0):(cmV t c t c).1=0/\(cmV t c t c).2=0:=by
 refine⟨by have:=(znc t c t c).1;omega,?_⟩;unfold cmV;by_cases h4:t.uD=4
 ·rw[if_pos ⟨h4,h4⟩,if_neg (fun e=>e (hg h4)),if_neg (fun e=>e (hg h4))]
 ·have hn:∀g,ntV t c g=(c,0):=fun g=>by unfold ntV;rw[if_pos (.inl h4)]
  rw[if_neg (fun e=>h4 e.1),hn,if_neg (fun e=>e rfl),if_neg (fun e=>e rfl)]
theorem zac{N:Nat}{f:Field}{m:Nat}(hm:f.vH-f.vE=(m:Int))(hm2:m<=1000)(e:Int):∀(k:Nat)(l:uBl),l.length<=1000->m-l.length<k->
  Y6 N k e l f=if e=0 then some (List.replicate (m-l.length) 48++l,0)else some ([],e)
 |0,_,_,hk=>by omega
 |k+1,l,hl,hk=>by
  show Ko N (Y6 N k) e l f=_;unfold Ko;rw[hm,zn (by omega) (by omega),za,zb];by_cases h:l.length<m
  ·rw[if_pos (by omega),qo (by show 1+l.length<=_;omega),za,List.singleton_append,zac hm hm2 e k (48::l) (by rw[mK];omega) (by rw[mK];omega),mK];congr 2;rw[show m-l.length=(m-(l.length+1))+1 by omega,List.replicate_succ',mP];rfl
  ·rw[if_neg (by omega),show m-l.length=0 by omega,zg];rfl
theorem zh9{N:Nat}(hN:3000<N){s:Shape}{z:Nat}(h:MS s z){b:uBl}(hb:b.length=z)(hz:z<=400)(g:Bool):zad N (fld s b) g=some (ntV s b g):=by
 unfold zad ntV;show cond (!decide (s.uD=4)) _ _=_;rw[zg];by_cases h4:s.uD=4
 ·rw[if_pos h4];cases g with
  |true=>rw[cond_true,if_pos (.inr rfl)];rfl
  |false=>
   rw[cond_false,if_neg (by rintro(e|e);exact e h4;cases e)];show cond (decide (0<s.uB)) _ _=_;rw[zb];by_cases hs0:0<s.uB
   ·rw[if_pos hs0,if_pos hs0]
   ·rw[if_neg hs0,if_neg hs0];obtain⟨n,hn⟩:=zh0 h.chk h4 h.u0;have hs1:=hn.sc1;have h18:=hn.n18;have h1:=hn.n1;have hdg:=hn.dig;have hz3:=Vj hn;rw[<-h.sz4 hn]at hz3;have el:(fld s b).vH-(fld s b).vE=((lenT s:Nat):Int):=by show s.uA-s.uB=_;unfold lenT;omega
    have elt:lenT s=n+(-s.uB).toNat:=by unfold lenT;rw[hn.nat]
    rw[hn.nat,Vi hN hn h.chk h.pic (by omega),zc];by_cases hg:(yf s n b).2=0
    ·obtain⟨f1,f2,f3⟩:=zrY hn (by omega) hg;have hl:=(VI hn hg).2.2.1;rw[zac (f:=fld s b) el (by omega) _ N _ (by omega) (by omega),if_pos hg,if_neg (fun e=>e hg),if_pos f1,f3]
    ·have hl:(yf s n b).1.uA.length<=1000:=by
      unfold yf at hg⊢;split at hg
      ·exact absurd rfl hg
      ·rename_i hr;rw[if_neg hr];exact uAE _
     rw[zac (f:=fld s b) el (by omega) _ N _ hl (by omega),if_neg hg,if_pos hg]
 ·rw[if_neg h4,if_pos (.inl h4)];rfl
theorem zhj{N:Nat}(hN:3000<N)(hN2:N<=1000000){s t:Shape}{z z':Nat}(h:MS s z)(h':MS t z')(hz:z<=400)(hz':z'<=400){b c:uBl}(hb:b.length=z)(hc:c.length=z'):
  JR N (fld s b) (fld t c)=some (cmV s b t c):=by
 have k:∀x:Bool,x=decide (s.uD=4/\t.uD=4)->jQ N x (fld s b) (fld t c)=some (cmV s b t c):=by
  intro x hx;unfold jQ cmV;by_cases h44:s.uD=4/\t.uD=4
  ·rw[hx,decide_eq_true h44,cond_true,if_pos h44];obtain⟨n,hn⟩:=zh0 h.chk h44.1 h.u0;obtain⟨m,hm⟩:=zh0 h'.chk h44.2 h'.u0;have hz3:=Vj hn;rw[<-h.sz4 hn]at hz3;have hz4:=Vj hm;rw[<-h'.sz4 hm]at hz4;rw[hn.nat,hm.nat,Vi hN hn h.chk h.pic (by omega),zc,Vi hN hm h'.chk h'.pic (by omega),zc,zg];by_cases g1:(yf s n b).2=0
   ·rw[if_pos g1,if_neg (fun e=>e g1),zg];by_cases g2:(yf t m c).2=0
    ·rw[if_pos g2,if_neg (fun e=>e g2),zdy hN (VI hn g1) (VI hm g2),zc]
    ·rw[if_neg g2,if_pos g2]
   ·rw[if_neg g1,if_pos g1]
  ·rw[hx,decide_eq_false h44,cond_false,if_neg h44];have t1:=zh9 hN h hb hz (decide (t.uD=0));have t2:=zh9 hN h' hc hz' (decide (s.uD=0));have l1:=(za1 hN h hb hz (decide (t.uD=0))).2;have l2:=(za1 hN h' hc hz' (decide (s.uD=0))).2;show bnd (zad N (fld s b) (decide (t.uD=0))) (fun r3=>bnd (zad N (fld t c) (decide (s.uD=0))) _)=_;rw[t1,zc,t2,zc,zg];by_cases g1:(ntV s b (decide (t.uD=0))).2=0
   ·rw[if_pos g1,if_neg (fun e=>e g1),zg];by_cases g2:(ntV t c (decide (s.uD=0))).2=0
    ·rw[if_pos g2,if_neg (fun e=>e g2),zdB (by omega) (by omega) hN2,zc]
    ·rw[if_neg g2,if_pos g2]
   ·rw[if_neg g1,if_pos g1]
 unfold JR;show cond (decide (s.uD=4)) (jQ N (decide (t.uD=4)) _ _) (jQ N false _ _)=_;rw[zb];by_cases h4:s.uD=4
 ·rw[if_pos h4];exact k _ (by rw[decide_eq_decide];exact⟨fun e=>⟨h4,e⟩,fun e=>e.2⟩)
 ·rw[if_neg h4];exact k _ (by rw[decide_eq_false (fun e=>h4 e.1)])
theorem zqI{s t:Shape}{b c:uBl}(h:fld s b=fld t c):s=t/\b=c:=by cases s;cases t;cases h;exact⟨rfl,rfl⟩
theorem zxP{N:Nat}(hN:3000<N){x:F_64}(hx:FX x){s:Shape}{b:uBl}(hF:FOf N x=some (fld s b))(h4:s.uD=4):(yf s s.uA.toNat b).2=0:=by obtain⟨s0,z,b0,e1,hm,hz,hc,e2,e3⟩:=zpS hN hx;rw[hF]at e2;obtain⟨rfl,rfl⟩:=zqI (Option.some.inj e2);obtain⟨s1,z1,f1,hm1,hz1,hc1,_,g4,_⟩:=ziK hN hx;rw[e1]at f1;cases f1;obtain⟨s',n,ng,l,p1,hs,hchk,hp,hd,hl,hng,f2⟩:=zqM hN (x:=fF x) hx.d0 hx.d1 hx.p0 hx.p1 hx.f0 hx.f1;rw[g4 h4]at p1;cases p1;unfold FOf at hF;rw[e1,zc,decide_eq_true h4,cond_true]at hF;have hF:bnd (fOf N (fF x)) (fun rr1=>some rr1)=some (fld s b):=hF;rw[f2,zc]at hF;obtain⟨_,rfl⟩:=zqI (Option.some.inj hF);rw[hs.nat,zxl hs hd hl hng]
theorem XJ(x y:F_64)(c0 c1:Int)(hx:FX x)(hy:FX y)(h0:0<=c0/\c0<=255)(h1:0<=c1/\c1<=255):∃N,yd N x y ⟨c0,c1⟩=some true:=by
 refine⟨4000,?_⟩;obtain⟨s,z1,b,_,h,hz,_,hF,hbl⟩:=zpS (N:=4000) (by decide) hx;obtain⟨t,z2,c,_,h',hz',_,hF',hcl⟩:=zpS (N:=4000) (by decide) hy;have k0:∀b':uBl,b'.length=z1->qb 4000 s.uD s.uG s.uC s.uA s.uB s.uE s.uJ s.uK s.uM s.uH s.uI t.uD t.uG t.uC t.uA t.uB t.uE t.uJ t.uK t.uM t.uH t.uI b' c=some true:=by intro b' hb';obtain⟨w1,w2⟩:=znc s b' t c;have hr:=zz8 t c s b';obtain⟨v1,v2⟩:=zu8 (t:=t) (c:=c) (fun e=>zxP (N:=4000) (by decide) hy hF' e);unfold qb;show bnd (qI 4000 (fld s b') (fld t c)) (fun rr2=>bnd (qI 4000 (fld t c) (fld s b')) (fun rr3=>bnd (JR 4000 (fld s b') (fld t c)) _))=_;rw[Kg (by decide) (by decide) h h' hz hz' hb' hcl,zc,Kg (by decide) (by decide) h' h hz' hz hcl hb',zc,zhj (by decide) (by decide) h h' hz hz' hb' hcl,zc];rw[zg,if_pos rfl,zg,if_pos rfl,zg,if_pos (by rw[decide_eq_decide];exact w2),zn (by omega) (by omega),za,zg,if_pos (by omega)];show bnd (qI 4000 (fld t c) (fld t c)) _=_;rw[Kg (by decide) (by decide) h' h' hz' hz' hcl hcl,zc,v1,v2];rfl
 have k1:∀g:Bool,(g=true->0<b.length)->y9 4000 c0 c1 g s.uD s.uG s.uC s.uA s.uB s.uE s.uJ s.uK s.uM s.uH s.uI t.uD t.uG t.uC t.uA t.uB t.uE t.uJ t.uK t.uM t.uH t.uI b c=some true:=by
  intro g hg;unfold y9;cases g with
  |false=>rw[cond_false];exact k0 b hbl
  |true=>
   have hb0:0<(b.length:Int):=by have:=hg rfl;omega
   have hm0:=Int.emod_nonneg c0 (show(b.length:Int)≠0 by omega);have hm1:=Int.emod_lt_of_pos c0 hb0;have hi:inIx (c0% (b.length:Int)) b.length=true:=zw.2 ⟨hm0,by omega⟩;have hn:zh c0=true:=decide_eq_true h0.1;have hu:inKb .u8 c1=true:=yh.2 (⟨by show(0:Int)<=c1;omega,by show c1<=255;omega⟩);rw[cond_true,zn (by omega) (by omega),za,hn,decide_eq_true hb0,uAI,za,hi,za,hu,uAI,za];exact k0 _ (by rw[uAM];exact hbl)
 unfold yd;rw[hF,zc,hF',zc,zb];by_cases h128:128<=c0
 ·rw[if_pos h128];exact k1 (decide (0<(b.length:Int))) (fun e=>by have:=of_decide_eq_true e;omega)
 ·rw[if_neg h128];exact k1 false (fun e=>by cases e)
end Go.Proofs.C06
end
