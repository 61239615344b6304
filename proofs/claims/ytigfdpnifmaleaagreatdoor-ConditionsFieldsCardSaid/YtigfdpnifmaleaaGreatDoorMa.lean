/-
  A part of the proof of the laws.
-/
import Derived.Test.YtigfdpnifmaleaaGreatDoorS7
import Derived.Test.YtigfdpnifmaleaaGreatDoorUa
import Derived.Test.YtigfdpnifmaleaaGreatDoorEc
import Derived.Test.YtigfdpnifmaleaaGreatDoorUd
import Derived.Test.YtigfdpnifmaleaaGreatDoorEd
import Derived.Test.YtigfdpnifmaleaaGreatDoorEg
import Derived.Test.YtigfdpnifmaleaaGreatDoorW1
import Derived.Test.YtigfdpnifmaleaaGreatDoorCi
section
set_option maxRecDepth 100000
namespace Go.Proofs.C06
open Go Go.RowKit Go.Vc Go.Am Go.Dg
def fit(b:uBl)(n:Nat)(left:Bool):uBl:=if left=true then List.replicate (n-b.length) 32++b.drop (b.length-n)else b.take n++List.replicate (n-b.length) 32
theorem zAF{n:Nat}(h:n<=100000000):(zj6 1 (n:Int)&&decide ((n:Int)=(n:Int)))=true:=by show((Nat.ble (1*n) 281474976710656&&Nat.ble n 9223372036854775807)&&decide ((n:Int)=(n:Int)))=true;rw[decide_eq_true rfl,uAP,mE,Nat.ble_eq,Nat.ble_eq];omega
theorem zq8{N:Nat}(s:uBl)(hs:s.length<=1000000):∀(k i:Nat),i<=s.length->s.length-i<k->qV N k s (s.length:Int) (i:Int)=some (decide (Digs (s.drop i)))
 |0,i,_,hk=>by omega
 |k+1,i,hi,hk=>by
  show J3 N (qV N k) s _ _=_;unfold J3;by_cases h:i<s.length
  ·have hd:s.drop i=s.getD i 0::s.drop (i+1):=by rw[mH,mG h];exact uAn h
   rw[decide_eq_true (by omega),cond_true,zu.2 ⟨by omega,by omega⟩,za];have hb:byteAt s (i:Int)=((s.getD i 0).toNat:Int):=rfl;rw[hb];have hdg:zk3 N ((s.getD i 0).toNat:Int)=some (decide (48<=(s.getD i 0).toNat/\(s.getD i 0).toNat<=57)):=by
    unfold zk3;rw[zb];by_cases h1:48<=(s.getD i 0).toNat
    ·rw[if_pos (by omega)];congr 1;exact decide_eq_decide.2 ⟨fun h=>⟨h1,by omega⟩,fun h=>by omega⟩
    ·rw[if_neg (by omega),decide_eq_false (fun h=>h1 h.1)]
   rw[hdg,zc,hd];by_cases h1:48<=(s.getD i 0).toNat/\(s.getD i 0).toNat<=57
   ·rw[decide_eq_true h1,uAI,cond_false,zn (by omega) (by omega),za,show(i:Int)+1=((i+1:Nat):Int)by omega,zq8 s hs k (i+1) (by omega) (by omega)];congr 1;exact decide_eq_decide.2 ⟨fun h c hc=>by rcases mV.1 hc with rfl|hc;exact h1;exact h c hc,fun h c hc=>h c (nE _ hc)⟩
   ·rw[decide_eq_false h1,Bool.not_false,cond_true,decide_eq_false (fun h=>h1 (h _ nL))]
  ·have:s.length=i:=by omega
   subst this;rw[decide_eq_false (by omega),cond_false,List.drop_length,decide_eq_true (show Digs []from Digs.nil)]
theorem zk1{N:Nat}{s:uBl}(hs:s.length<N)(hs2:s.length<=1000000):QG N s=some (decide (s≠[]/\Digs s)):=by
 unfold QG;rw[zf];by_cases h:s=[]
 ·rw[if_pos h,decide_eq_false (fun e=>e.1 h)]
 ·rw[if_neg h];unfold zcy;have:=zq8 (N:=N) s hs2 N 0 (uAE _) (by omega);rw[show((0:Nat):Int)=0 from rfl]at this;rw[this,zc,nW];congr 1;exact decide_eq_decide.2 ⟨fun e=>⟨h,e⟩,fun e=>e.2⟩
end Go.Proofs.C06
end
section
set_option maxRecDepth 100000
namespace Go.Proofs.C06
open Go Go.RowKit Go.Vc Go.Am Go.Dg
def cutK(d:Decimal)(s:Int):Nat:=((d.uC.toNat:Int)-s).toNat
end Go.Proofs.C06
end
section
set_option maxRecDepth 100000
namespace Go.Proofs.C06
open Go Go.RowKit Go.Vc Go.Am Go.Dg
structure MS(s:Shape)(z:Nat):Prop where
 chk:chkV s=0
 pic:s.uB.length<=400
 siz:s.uG=(z:Int)
 c0:0<=s.uD
 c5:s.uD<=5
 u0:0<=s.uE
 zle:z<=1048576
 zl:s.uD≠0->z<=400
theorem znu{s:Shape}(h:chkV s=0):yY s=0:=by
 unfold chkV at h;by_cases hE:yY s=0
 ·exact hE
 ·rw[if_pos hE]at h;exact absurd h hE
theorem zun{s:Shape}(h:chkV s=0)(hp:s.uB.length<=400)(hc:0<=s.uD)(hu:0<=s.uE):∃z,MS s z:=by
 have hE:=znu h;have hE':=hE;unfold yY at hE;split at hE
 ·cases hE
 ·rename_i h1;split at hE
  ·cases hE
  ·rename_i h2;split at hE
   ·cases hE
   ·rename_i h3;by_cases h0:s.uD=0
    ·refine⟨s.uG.toNat,h,hp,by omega,hc,by omega,hu,by omega,fun e=>absurd h0 e⟩
    ·have hs:=zwK h h0;have hz:0<=sizeV s/\sizeV s<=400:=by
      unfold sizeV;rw[if_neg h0];split
      ·have:szN s.uB<=s.uB.length:=by unfold szN;omega
       omega
      ·repeat' split
       all_goals omega
     refine⟨s.uG.toNat,h,hp,by omega,hc,by omega,hu,by omega,fun _=>by omega⟩
def zqH(s:Shape)(b:uBl):Decimal×Int:=if s.uD=4 then Z6 s s.uA.toNat b else if s.uD=5 then zyN s s.uA.toNat s.uC.toNat b else if(Lib.trimS b [32]≠[]/\Digs (Lib.trimS b [32]))/\(Lib.trimS b [32]).length<=62 then nrm false (Lib.trimS b [32]) 0 else(zeR,15)
theorem NS.nat{s:Shape}{n:Nat}(h:NS s n):s.uA.toNat=n:=by have:=h.dig;omega
theorem ES.nat{s:Shape}{n sc:Nat}{sg:Bool}(h:ES s n sc sg):s.uA.toNat=n/\s.uC.toNat=sc:=by have:=h.dig;have:=h.scl;omega
theorem zku{s:Shape}{n:Nat}(h:NS s n){b:uBl}(h0:(Z6 s n b).2=0):VD (Z6 s n b).1:=by
 unfold Z6 at h0⊢;by_cases hr:(Ye s n b).2=0
 ·rw[if_pos hr];obtain⟨r1,r2,r3⟩:=zfm h hr;rw[r3];obtain⟨d1,d2⟩:=zqo h r1 r2;exact (zqG h d1 d2).1
 ·rw[if_neg hr]at h0;exact absurd h0 hr
theorem zi5{s:Shape}{n:Nat}(h:NS s n):szV s n<=300:=by
 have:=h.n18;unfold szV binW
 repeat' split
 all_goals omega
theorem MS.sz4{s:Shape}{z n:Nat}(h:MS s z)(hn:NS s n):z=szV s n:=by have h1:=h.siz;have h2:=hn.size;omega
def lenT(s:Shape):Nat:=s.uA.toNat+(-s.uC).toNat
end Go.Proofs.C06
end
section
set_option maxRecDepth 100000
namespace Go.Proofs.C06
open Go Go.RowKit Go.Vc Go.Am Go.Dg
def tx(c:Int)(p:uBl)(just:Bool):Shape:=Shape.mk c 0 p 0 0 false false false just false (p.length:Int)
theorem zqQ{c:Int}{p:uBl}(hpar:parS p=(tx c p false,0))(hne:p≠[])(hl:p.length<=80)(hsym:∀x∈p,syms.contains x=true)(hc:1<=c/\c<=3)(hsz:(tx c p false).uG=sizeV (tx c p false)):Good p (tx c p false) where
 par:=hpar
 ne:=hne
 len:=hl
 sym:=hsym
 pic:=rfl
 cat:=by show 1<=c/\c<=5;omega
 use:=rfl
 dig:=by show(0:Int)<=18;decide
 num:=fun h=>by have h:c=4:=h;omega
 sca:=by show(0:Int)<=18;decide
 led:=rfl
 sep:=rfl
 jus:=rfl
 bla:=rfl
 siz:=hsz
theorem zuJ{m:Nat}(h1:1<=m)(h2:m<=80):Good (List.replicate m 65) (tx 1 (List.replicate m 65) false)/\Good (List.replicate m 88) (tx 2 (List.replicate m 88) false):=by
 have hl:∀c:UInt8,(List.replicate m c).length=m:=fun c=>mM
 have hne:∀c:UInt8,List.replicate m c≠[]:=fun c e=>by have:=congrArg List.length e;rw[hl]at this;simp at this;omega
 have hsz:∀(c:UInt8)(k:Int),c≠86->(k=1\/k=2)->(tx k (List.replicate m c) false).uG=sizeV (tx k (List.replicate m c) false):=fun c k hc hk=>by
  unfold sizeV;rw[if_neg (show¬(tx k (List.replicate m c) false).uD=0 from fun e=>by have e:k=0:=e;omega),if_pos (show(tx k (List.replicate m c) false).uD≠4 from fun e=>by have e:k=4:=e;omega)];unfold szN;show((List.replicate m c).length:Int)=(((List.replicate m c).length-(List.replicate m c).count 86:Nat):Int)
  rw[uAM.2 (fun hm=>hc (uAS hm).symm),Nat.sub_zero]
 have cn:∀(set:uBl)(c:UInt8),set.contains c=true->cnt set (List.replicate m c)=(List.replicate m c).length:=fun set c h=>zcv fun x hx=>by rw[uAS hx];exact h
 refine⟨zqQ ?_ (hne _) (by rw[hl];exact h2) (fun c hc=>by rw[uAS hc];decide) (by decide) (hsz 65 1 (by decide) (.inl rfl)),zqQ ?_ (hne _) (by rw[hl];exact h2) (fun c hc=>by rw[uAS hc];decide) (by decide) (hsz 88 2 (by decide) (.inr rfl))⟩
 ·unfold parS zbM;rw[if_pos (cn [65] 65 (by decide))];rfl
 ·unfold parS zbM;have k1:¬cnt [65] (List.replicate m (88:UInt8))=(List.replicate m (88:UInt8)).length:=by
   obtain⟨k,rfl⟩:∃k,m=k+1:=⟨m-1,by omega⟩
   rw[nN,j7,if_neg (by decide),mK];omega
  have k2:¬(List.replicate m (88:UInt8)).countP zr7=0:=by
   obtain⟨k,rfl⟩:∃k,m=k+1:=⟨m-1,by omega⟩
   rw[nN,List.countP_cons_of_pos (by rfl)];omega
  rw[if_neg k1,if_neg k2,if_pos (cn [65,88,57] 88 (by decide))];rfl
theorem zyx{c:Int}{p:uBl}(hg:Good p (tx c p false))(hc:c=1\/c=2)(just:Bool):MS (tx c p just) p.length:=by
 have hpar:=zie hg;have hl:=hg.len;have hs:(p.length:Int)=sizeV (tx c p false):=hg.siz;have hs':(p.length:Int)=sizeV (tx c p just):=hs;refine⟨?_,by show p.length<=400;omega,rfl,by show 0<=c;omega,by show c<=5;omega,by show(0:Int)<=0;decide,by omega,fun _=>by omega⟩;have e1:yY (tx c p just)=0:=by unfold yY tx;dsimp only;rw[if_neg (by omega),if_neg (by omega),if_neg (by omega)]
 unfold chkV;rw[if_neg (fun k=>k e1),if_neg (show¬(tx c p just).uD=0 from fun e=>by have e:c=0:=e;omega)];unfold zdx;rw[show(tx c p just).uB=p from rfl,hpar];unfold XI;have n4:c≠4:=by omega
 simp only[tx,ne_eq,not_true_eq_false,if_false,or_self,decide_false,nB,false_and,not_false_eq_true,n4];rw[if_neg (by rintro⟨_,e1,e2⟩;omega)];exact if_pos hs'
def gr(n:Nat):Shape:=Shape.mk 0 0 [] 0 0 false false false false false (n:Int)
theorem zzT{n:Nat}(h:n<=1000):MS (gr n) n:=by
 refine⟨?_,uAE _,rfl,Int.le_refl 0,show(0:Int)<=5 by decide,Int.le_refl 0,by omega,fun e=>absurd rfl e⟩;have e1:yY (gr n)=0:=by unfold yY gr;dsimp only;rw[if_neg (by omega),if_neg (by omega),if_neg (by omega)]
 have e2:zc4 (gr n):=⟨rfl,rfl,rfl,rfl,rfl,rfl,rfl,rfl,rfl⟩
 unfold chkV;rw[if_neg (fun k=>k e1),if_pos (show(gr n).uD=0 from rfl),if_pos e2]
theorem zBl(l:uBl):shT (3::l)=tx 3 (picT (3::l)) false:=by
 unfold shT zgA;rw[if_neg]
 ·rfl
 ·intro h;have:=zk9 h 66 (by unfold picT;simp[sy6]);exact absurd this (by decide)
theorem zA7{l:uBl}(hl:l.length<=19):MS (tx 3 (picT (3::l)) false) (picT (3::l)).length:=by have hg:=zsa (l:=3::l) (by simpa using hl);rw[zBl]at hg;have:=hg.len;exact⟨zmV hg,by show(picT _).length<=400;omega,rfl,show(0:Int)<=3 by decide,show(3:Int)<=5 by decide,Int.le_refl 0,by omega,fun _=>by omega⟩
structure FX(x:F_64):Prop where
 k0:0<=x.vL
 d0:0<=x.vT
 d1:x.vT<=255
 p0:0<=x.vU
 p1:x.vU<=255
 f0:0<=x.vV
 f1:x.vV<=255
 s0:0<=x.wC
 o0:0<=x.wD
 w0:0<=x.wE
 m0:0<=x.wF
 n0:0<=x.wG
 t0:0<=x.wH
 a0:0<=x.wI
 ins:∀v∈x.wK,0<=v/\v<=65535
def fF(x:F_64):F:=F.mk x.vT x.vU x.vV x.vX x.wL
def fE(x:F_64):E:=E.mk x.wC x.wD x.wE x.wF x.wG x.wH x.wI x.wK x.wM
theorem zbE{N:Nat}{sym:UInt8}{x:F_64}{b1:Shape}{c:Int}{m:Nat}(hm:m<=1000):∀(k i:Nat),i<=m->m-i<k->
  QK N k [sym] (i:Int) x b1 (Shape.mk c 0 (List.replicate i sym) 0 0 false false false false false (m:Int))=some (tx c (List.replicate m sym) x.uM)
 |0,i,_,hk=>by omega
 |k+1,i,hi,hk=>by
  show K1 N (QK N k) [sym] _ x b1 _=_;unfold K1;dsimp only;rw[zb];by_cases h:i<m
  ·rw[if_pos (by omega),qU (by simp;omega),za,zn (by omega) (by omega),za,<-List.replicate_succ',show(i:Int)+1=((i+1:Nat):Int)by omega];exact zbE hm k (i+1) (by omega) (by omega)
  ·have:i=m:=by omega
   subst this;rw[if_neg (by omega)];unfold tx;rw[mM]
theorem zzp{c:UInt8}:atS ([[88],[65],[57],[66],[48],[47]]:List uBl) ((c.toNat:Int)%6)=[sy6 c]:=by
 unfold atS sy6;rw[show((c.toNat:Int)%6).toNat=c.toNat%6 by omega];have h:c.toNat%6<6:=uA4 _ (by decide);generalize c.toNat%6=j at h;rcases j with _|_|_|_|_|_|j
 all_goals first|rfl|omega
theorem zbD{N:Nat}{x:F_64}{b1:Shape}{n:Nat}(hn:n<=x.uO.length)(h24:n<=24)(z:Int):∀(k i:Nat),i<=min n 12->min n 12-i<k->
  QJ N k (n:Int) (i:Int) x b1 (Shape.mk 3 0 (picT (3::x.uO.take i)) 0 0 false false false false false z)=some (tx 3 (picT (3::x.uO.take (min n 12))) false)
 |0,i,_,hk=>by omega
 |k+1,i,hi,hk=>by
  show K0 N (QJ N k) _ _ x b1 _=_;unfold K0;dsimp only;have hlen:(picT (3::x.uO.take i)).length<=100:=by unfold picT;simp;omega
  rw[zb];by_cases h:i<min n 12
  ·have hit:i<x.uO.length:=by omega
   have hnn:(zh (byteAt x.uO (i:Int))&&decide ((0:Int)<6))=true:=by show(zh (((x.uO.getD i 0).toNat:Nat):Int)&&_)=true;unfold zh;rw[decide_eq_true (by omega)];rfl
   have hb:byteAt x.uO (i:Int)=(((x.uO.getD i 0).toNat:Nat):Int):=rfl;rw[if_pos (by omega),zb,if_pos (by omega),zu.2 ⟨by omega,by omega⟩,za];have hnn':(zh (byteAt x.uO (i:Int))&&decide (0<6))=true:=hnn;rw[hnn',za,hb,zu.2 ⟨by omega,by show _<((6:Nat):Int);omega⟩,za,za,zzp,qU (by simp;omega),za,zn (by omega) (by omega),za];have e:picT (3::x.uO.take i)++[sy6 (x.uO.getD i 0)]=picT (3::x.uO.take (i+1)):=by rw[zn9 hit];unfold picT;simp
   rw[e,show(i:Int)+1=((i+1:Nat):Int)by omega];exact zbD hn h24 z k (i+1) (by omega) (by omega)
  ·have:i=min n 12:=by omega
   subst this;by_cases h2:(((min n 12:Nat):Nat):Int)<(n:Int)
   ·rw[if_pos h2,zb,if_neg (by omega)];rfl
   ·rw[if_neg h2];rfl
theorem zus(a b:Nat):VS (a:Int) (b:Int)=((min a b:Nat):Int):=by unfold VS;split<;>omega
theorem zsO{N:Nat}(hN:3000<N){x:F_64}(hx:FX x):∃s z,zgR N x=some s/\MS s z/\z<=400/\s.uD=x.vL%6/\(s.uD=3->z=s.uB.length)/\
  (s.uD=4->YM N (fF x)=some s)/\(s.uD=5->Xt N (fE x)=some s):=by
 have hk:=hx.k0;obtain⟨k,hk6⟩:=WN (k:=6) hk (by decide);have hlt:k<6:=by omega
 have hn:VS ((x.uO).length:Int) 24=((min x.uO.length 24:Nat):Int):=zus _ 24;obtain⟨n,hn'⟩:∃n,n=min x.uO.length 24:=⟨_,rfl⟩
 rw[<-hn']at hn;have hn24:n<=24:=by omega
 have hm:jt (n:Int) 1=((max n 1:Nat):Int):=by unfold jt;split<;>omega
 have key:∀t:Bool,t=decide ((k:Int)=1\/(k:Int)=2)->∃s z,QM N (n:Int) (k:Int) t x z0 (Shape.mk (k:Int) 0 [] 0 0 false false false false false (n:Int))=some s/\MS s z/\z<=400/\s.uD=(k:Int)/\(s.uD=3->z=s.uB.length)/\
   (s.uD=4->YM N (fF x)=some s)/\(s.uD=5->Xt N (fE x)=some s):=by
  intro t ht;unfold QM;dsimp only;have txt:∀(c:Int)(sym:UInt8),(c=1/\sym=65\/c=2/\sym=88)->∃s z,QL N (n:Int) [sym] x z0 (Shape.mk c 0 [] 0 0 false false false false false (n:Int))=some s/\MS s z/\z<=400/\s.uD=c/\(s.uD=3->z=s.uB.length)/\
    (s.uD=4->YM N (fF x)=some s)/\(s.uD=5->Xt N (fE x)=some s):=by
   intro c sym hc;have hg:=zuJ (m:=max n 1) (by omega) (by omega);refine⟨tx c (List.replicate (max n 1) sym) x.uM,max n 1,?_,?_,?_,rfl,fun e=>?_,fun e=>?_,fun e=>?_⟩
   ·unfold QL;dsimp only;rw[hm];exact zbE (by omega) N 0 (by omega) (by omega)
   ·rcases hc with⟨rfl,rfl⟩|⟨rfl,rfl⟩
    ·have:=zyx hg.1 (.inl rfl) x.uM;rwa [mM]at this
    ·have:=zyx hg.2 (.inr rfl) x.uM;rwa [mM]at this
   ·omega
   ·have e:c=3:=e;omega
   ·have e:c=4:=e;omega
   ·have e:c=5:=e;omega
  cases t with
  |true=>
   have ht:=of_decide_eq_true ht.symm;rw[cond_true,zb];by_cases h2:(k:Int)=2
   ·rw[if_pos h2,h2];exact txt 2 88 (.inr ⟨rfl,rfl⟩)
   ·rw[if_neg h2];have h1:(k:Int)=1:=by omega
    rw[h1];exact txt 1 65 (.inl ⟨rfl,rfl⟩)
  |false=>
   have ht:=of_decide_eq_false ht.symm;rw[cond_false,zb];by_cases h3:(k:Int)=3
   ·rw[if_pos h3,h3];have hl3:=zbD (N:=N) (x:=x) (b1:=z0) (n:=n) (by omega) hn24 (n:Int) N 0 (by omega) (by omega);refine⟨tx 3 (picT (3::x.uO.take (min n 12))) false,(picT (3::x.uO.take (min n 12))).length,hl3,zA7 (by rw[mI];omega),?_,rfl,fun _=>rfl,(fun e=>by cases e),(fun e=>by cases e)⟩;unfold picT;simp;omega
   ·rw[if_neg h3,zb];by_cases h4:(k:Int)=4
    ·rw[if_pos h4,h4];have hf:=zik (N:=N) hN (x:=fF x) (dg:=x.vT.toNat) (fm:=x.vV.toNat) (pt:=x.vU.toNat) (by have:=hx.d0;show x.vT=_;omega) (by have:=hx.f0;show x.vV=_;omega) (by have:=hx.f1;omega) (by have:=hx.p0;show x.vU=_;omega) (by have:=hx.p1;omega) (by have:=hx.d1;omega);have h1:1<=x.vT.toNat%18+1:=by omega
     have h2:x.vT.toNat%18+1<=18:=by omega
     obtain⟨g1,g2,g3⟩:=ztj (pt:=x.vU.toNat) (fm:=x.vV.toNat) h1 h2;obtain⟨z,hz⟩:=zun g2 g3 (by rw[g1.cat];decide) (by rcases g1.use with e|e|e<;>rw[e]<;>decide);have hcat:=g1.cat;refine⟨shX (x.vT.toNat%18+1) x.vU.toNat x.vV.toNat,z,?_,hz,hz.zl (by rw[hcat];decide),hcat,(fun e=>by rw[hcat]at e;cases e),fun _=>hf,(fun e=>by rw[hcat]at e;cases e)⟩;show bnd (YM N (fF x)) _=_;rw[hf,zc]
    ·rw[if_neg h4,zb];by_cases h5:(k:Int)=5
     ·rw[if_pos h5,h5];obtain⟨sg,w,mn,ni,pt,pa,hp⟩:=zyB (x:=fE x) hx.s0 hx.o0 hx.w0 hx.m0 hx.n0 hx.t0 hx.a0;obtain⟨s,n',sc,g,e1,e2,e3,e4,e5⟩:=zir hN hp hx.ins;have hcat:=e3.cat;have hu:s.uE=0:=by
       have:=znu e2;apply Classical.byContradiction;intro hu;unfold chkV at e2;rw[if_neg (fun h=>h this),if_neg (by omega)]at e2;unfold zdx at e2;split at e2
       ·rename_i hh;exact hh e2
       ·split at e2
        ·cases e2
        ·unfold XI at e2;split at e2
         ·cases e2
         ·rw[if_pos ⟨hu,by omega⟩]at e2;cases e2
      obtain⟨z,hz⟩:=zun e2 (by omega) (by rw[hcat];decide) (by omega);refine⟨s,z,?_,hz,hz.zl (by rw[hcat];decide),hcat,(fun e=>by rw[hcat]at e;cases e),(fun e=>by rw[hcat]at e;cases e),fun _=>e1⟩;show bnd (Xt N (fE x)) _=_;rw[e1,zc]
     ·have hk0:k=0:=by omega
      subst hk0;rw[if_neg h5];exact⟨gr n,n,rfl,zzT (by omega),by omega,rfl,(fun e=>by cases e),(fun e=>by cases e),(fun e=>by cases e)⟩
 have hnn:(zh x.vL&&decide (0<6))=true:=by unfold zh;rw[decide_eq_true hk];rfl
 unfold zgR;rw[hnn,za,hn,hk6,zb];by_cases h1:(k:Int)=1
 ·rw[if_pos h1];exact key _ (decide_eq_decide.2 ⟨fun e=>.inl e,fun _=>h1⟩)
 ·rw[if_neg h1];exact key _ (decide_eq_decide.2 ⟨fun e=>.inr e,fun e=>by rcases e with e|e;exact absurd e h1;exact e⟩)
end Go.Proofs.C06
end
section
set_option maxRecDepth 100000
namespace Go.Proofs.C06
open Go Go.RowKit Go.Vc Go.Am Go.Dg
theorem zx1{N:Nat}(hN:3000<N){x:F}(h1:0<=x.uA)(h2:x.uA<=255)(h3:0<=x.uL)(h4:x.uL<=255)(h5:0<=x.uP)(h6:x.uP<=255):
  ∃s n ng l,YM N x=some s/\NS s n/\chkV s=0/\s.uB.length<=400/\Digs l/\l.length=n/\(ng=true->s.uH=true/\val l≠0)/\fOf N x=some (fld s (wr s n ng l)):=by
 have hsh:=zik (N:=N) hN (x:=x) (dg:=x.uA.toNat) (fm:=x.uP.toNat) (pt:=x.uL.toNat) (by omega) (by omega) (by omega) (by omega) (by omega) (by omega);obtain⟨n,hn⟩:∃n,n=x.uA.toNat%18+1:=⟨_,rfl⟩
 obtain⟨l,ht,hd,hl⟩:=zm0 (N:=N) hN (x:=x) h1;rw[<-hn]at hsh hl;obtain⟨hns,hc,hp⟩:=ztj (n:=n) (pt:=x.uL.toNat) (fm:=x.uP.toNat) (by omega) (by omega);generalize shX n x.uL.toNat x.uP.toNat=s at hsh hns hc hp;have h18:=hns.n18;have hsc1:=hns.sc1;have hsc2:=hns.sc2;obtain⟨ng,hng⟩:∃ng,ng=(x.uN&&(s.uH&&decide (val l≠0))):=⟨_,rfl⟩
 refine⟨s,n,ng,l,hsh,hns,hc,hp,hd,hl,?_,?_⟩
 ·intro e;rw[hng]at e;simp only[mE,decide_eq_true_eq]at e;exact e.2
 ·unfold fOf;rw[hsh,zc,ht,zc,zr3 hN hns hd hl x.uN,zc,<-hng];rfl
end Go.Proofs.C06
end
section
set_option maxRecDepth 100000
namespace Go.Proofs.C06
open Go Go.RowKit Go.Vc Go.Am Go.Dg
end Go.Proofs.C06
end
section
set_option maxRecDepth 100000
namespace Go.Proofs.C06
open Go Go.RowKit Go.Vc Go.Am Go.Dg
theorem ziG{N:Nat}{x:F_64}{s:Shape}{z:Nat}(hs:s.uG=(z:Int))(hz:z<=1000000):∀(k i:Nat)(L:uBl),i<=z->z-i<k->L.length=z->
  ∃b,zcG N k (i:Int) x 0 0 [] 0 0 false false false false false 0 s s.uD s.uE s.uB s.uA s.uC s.uH s.uJ s.uK s.uM s.uI s.uG L=some (fld s b)/\b.length=z
 |0,i,_,_,hk,_=>by omega
 |k+1,i,L,hi,hk,hL=>by
  show∃b,zgS N (zcG N k) _ x 0 0 [] 0 0 false false false false false 0 s _ _ _ _ _ _ _ _ _ _ _ L=some (fld s b)/\_;unfold zgS;rw[hs,zb];by_cases h:i<z
  ·have hi1:(i:Int)+1=((i+1:Nat):Int):=by omega
   have ih:∀L':uBl,L'.length=z->∃b,zcG N k ((i+1:Nat):Int) x 0 0 [] 0 0 false false false false false 0 s s.uD s.uE s.uB s.uA s.uC s.uH s.uJ s.uK s.uM s.uI (z:Int) L'=some (fld s b)/\b.length=z:=fun L' hL'=>by have:=ziG (N:=N) (x:=x) hs hz k (i+1) L' (by omega) (by omega) hL';rwa [hs]at this
   rw[if_pos (by omega),zu.2 ⟨by omega,by omega⟩,za];rw[show chk (true&&inKb .u8 32)=chk (true:Bool) (α:=Field)from rfl,za,zb];by_cases ht:0<(x.uO.length:Int)
   ·have hnn:(zh (i:Int)&&decide (0<(x.uO.length:Int)))=true:=by unfold zh;rw[decide_eq_true ht,decide_eq_true (by omega)];rfl
    have hmod:(i:Int)% (x.uO.length:Int)=((i%x.uO.length:Nat):Int):=by omega
    have hml:i%x.uO.length<x.uO.length:=uA4 _ (by omega);have hbt:byteAt x.uO ((i%x.uO.length:Nat):Int)=(((x.uO.getD (i%x.uO.length) 0).toNat:Nat):Int):=rfl;rw[if_pos ht,hnn,za,hmod,zu.2 ⟨by omega,by omega⟩,za,uAT,zu.2 ⟨by omega,by omega⟩,za,hbt,ZA,uAH,za,zn (by omega) (by omega),za,hi1];exact ih _ (by rw[uAT,uAT,hL])
   ·rw[if_neg ht,zn (by omega) (by omega),za,hi1];exact ih _ (by rw[uAT,hL])
  ·have:i=z:=by omega
   subst this;rw[if_neg (by omega)];exact⟨L,by rw[<-hs];rfl,hL⟩
theorem zAo{N:Nat}(hN:3000<N){x:F_64}(hx:FX x):∃s z b,zgR N x=some s/\MS s z/\z<=400/\s.uD=x.vL%6/\FOf N x=some (fld s b)/\b.length=z:=by
 obtain⟨s,z,e1,hm,hz,hc,_,h4,h5⟩:=zsO hN hx;have hS:=hm.siz;unfold FOf;rw[e1];by_cases c4:s.uD=4
 ·obtain⟨s',n,ng,l,f1,hs,hchk,hp,hd,hl,hng,f2⟩:=zx1 hN (x:=fF x) hx.d0 hx.d1 hx.p0 hx.p1 hx.f0 hx.f1;rw[h4 c4]at f1;cases f1;refine⟨s,z,wr s n ng l,rfl,hm,hz,hc,?_,?_⟩
  ·rw[zc,decide_eq_true c4,cond_true];show bnd (fOf N (fF x)) _=_;rw[f2,zc]
  ·rw[(zAy hs hd hl hng).2,hm.sz4 hs]
 ·by_cases c5:s.uD=5
  ·obtain⟨sg,w,mn,ni,pt,pa,hp⟩:=zyB (x:=fE x) hx.s0 hx.o0 hx.w0 hx.m0 hx.n0 hx.t0 hx.a0;obtain⟨s',n,sc,g,f1,f2,hES,h12,f5⟩:=zir hN hp hx.ins;rw[h5 c5]at f1;cases f1;obtain⟨l,e2,hld,hll⟩:=zm0 hN (x:=fF x) hx.d0;obtain⟨d1,d2,d3⟩:=zAR hld h12;have hsc:=hES.scn;have hn1:=hES.n1;have hll2:l.length<=18:=by rw[hll];have:=uA4 (fF x).uA.toNat (show 0<18 by decide);omega
   generalize hds:(l++qG).take n=ds at d1 d2;have hq:val ds<10^n:=by have:=yd d1;rwa [d2]at this
   refine⟨s,z,zsz s (fmt n (val ds)) (x.vX&&decide (val ds≠0)),rfl,hm,hz,hc,?_,?_⟩
   ·rw[zc,decide_eq_false c4,cond_false,decide_eq_true c5,cond_true];show bnd (zij N (fF x)) _=_;have htk:jm (l++qG) (n:Int)=ds:=hds;rw[e2,zc];show chk (zT l qG) (chk (zk 0 s.uA (l++qG).length) (bnd (zcd N x.vX (jm (l++qG) s.uA) s.uC) _))=_;rw[qU (by show _+12<=_;omega),za,hES.dig,d3,za,htk,hES.scl,zy3 hN x.vX d1 (by omega) (by omega),zc,zvN hN hES f2 x.vX hq,zc];rw[<-hES.dig,<-hES.scl];rfl
   ·have:=zve hES (qP n (val ds)) (jJ n (val ds)) (x.vX&&decide (val ds≠0));omega
  ·obtain⟨b,g1,g2⟩:=ziG (N:=N) (x:=x) hS (by omega) N 0 (List.replicate z 0) (uAE _) (by omega) mM;refine⟨s,z,b,rfl,hm,hz,hc,?_,g2⟩;rw[zc,decide_eq_false c4,cond_false,decide_eq_false c5,cond_false];have hrep:(List.replicate s.uG.toNat (0:UInt8))=List.replicate z 0:=by rw[hS,nA]
   have hmk:(zj6 1 s.uG&&decide (s.uG=s.uG))=true:=by rw[hS];exact zAF (by omega)
   rw[hmk,za,hrep];exact g1
theorem zyp{n:Nat}(c:UInt8)(hn:n<=100000000):znI ([((c.toNat:Nat):Int)].map toByte) (n:Int)=some (List.replicate n c):=by
 have e:[((c.toNat:Nat):Int)].map toByte=[c]:=by show[toByte _]=[c];rw[qr]
 rw[e];show chk (decide ((0:Int)<=(n:Int))&&decide ((n:Int)<=140737488355328)) (some (List.replicate ((n:Int)).toNat c))=_;rw[decide_eq_true (by omega),decide_eq_true (by omega),nA];rfl
end Go.Proofs.C06
end
section
set_option maxRecDepth 100000
namespace Go.Proofs.C06
open Go Go.RowKit Go.Vc Go.Am Go.Dg
theorem zrU{t:Shape}{z:Nat}(h:MS t z)(h45:t.uD=4\/t.uD=5){r:uBl}(hr:r.length=z):(zqH t r).2=0\/(zqH t r).2=15:=by
 unfold zqH;by_cases h4:t.uD=4
 ·obtain⟨n,hns⟩:=zmt h.chk h4 h.u0;rw[if_pos h4,hns.nat];have hrv:Ye t n r=if(rd t n r).2=true then((rd t n r).1,0)else(digits.mk false [],15):=by unfold Ye;rw[if_pos (by rw[hr,h.sz4 hns])]
  unfold Z6;by_cases hk:(rd t n r).2=true
  ·rw[if_pos hk]at hrv;rw[hrv,if_pos rfl];exact .inl rfl
  ·rw[if_neg hk]at hrv;rw[hrv,if_neg (fun e=>by cases e)];exact .inr rfl
 ·have h5:t.uD=5:=by omega
  obtain⟨n,sc,sg,hes⟩:=zyK h.chk h5;rw[if_neg h4,if_pos h5,hes.nat.1,hes.nat.2];unfold zyN;rw[if_neg (by have:=h.siz;omega)];split
  ·exact .inl rfl
  ·split
   ·exact .inl rfl
   ·exact .inr rfl
end Go.Proofs.C06
end
section
set_option maxRecDepth 100000
namespace Go.Proofs.C06
open Go Go.RowKit Go.Vc Go.Am Go.Dg
def sp(c:UInt8):Bool:=([32]:uBl).contains c
end Go.Proofs.C06
end
section
set_option maxRecDepth 100000
namespace Go.Proofs.C06
open Go Go.RowKit Go.Vc Go.Am Go.Dg
end Go.Proofs.C06
end
section
set_option maxRecDepth 100000
namespace Go.Proofs.C06
open Go Go.RowKit Go.Vc Go.Am Go.Dg
end Go.Proofs.C06
end
section
set_option maxRecDepth 100000
namespace Go.Proofs.C06
open Go Go.RowKit Go.Vc Go.Am Go.Dg
def zmo(b:uBl)(i:Nat):Int:=if i<b.length then byteAt b (i:Int)else 32
def zvw(x y:Int):Int:=if x<y then-1 else if y<x then 1 else 0
def zyc(a b:uBl):Nat->Nat->Int
 |0,_=>0
 |k+1,i=>if zvw (zmo a i) (zmo b i)≠0 then zvw (zmo a i) (zmo b i)else zyc a b k (i+1)
def zAa(a b:uBl):Int:=zyc a b (max a.length b.length) 0
theorem zpO(N:Nat)(x y:Int):zeL N x y=some (zvw x y):=by
 unfold zeL zkr zvw;simp only[decide_true,uAI,zc,cond_false];rw[zb];split
 ·rfl
 ·rw[zb];split<;>rfl
theorem zgF(N:Nat)(b:uBl)(i:Nat):zbp N b (i:Int)=some (zmo b i):=by
 unfold zbp zmo;rw[zb];by_cases h:i<b.length
 ·rw[if_neg (by omega),if_pos h,zu.2 ⟨by omega,by omega⟩,za]
 ·rw[if_pos (by omega),if_neg h]
theorem Wt{N:Nat}{a b:uBl}{M:Nat}(hM:M<=1000000):∀(k' k i:Nat),i+k=M->k<k'->ZL N k' a b (M:Int) (i:Int)=some (zyc a b k i)
 |0,_,_,_,h=>by omega
 |k'+1,k,i,hi,hk=>by
  show YT N (ZL N k') a b (M:Int) (i:Int)=_;unfold YT;rw[zb];cases k with
  |zero=>rw[if_neg (by omega)];rfl
  |succ k=>
   rw[if_pos (by omega),zgF,zc,zgF,zc,zpO,zc,zf];unfold zyc;by_cases h0:zvw (zmo a i) (zmo b i)=0
   ·rw[if_pos h0,if_neg (fun e=>e h0),zn (by omega) (by omega),za,show(i:Int)+1=((i+1:Nat):Int)by omega];exact Wt hM k' k (i+1) (by omega) (by omega)
   ·rw[if_neg h0,if_pos h0]
theorem zdh{N:Nat}{a b:uBl}(ha:a.length<N)(hb:b.length<N)(hN:N<=1000000):KS N a b=some (zAa a b):=by
 unfold KS zAa;have e:jt (a.length:Int) (b.length:Int)=((max a.length b.length:Nat):Int):=by unfold jt;split<;>omega
 rw[e,show(0:Int)=((0:Nat):Int)from rfl];exact Wt (by omega) N _ 0 (by omega) (by omega)
def ntV(s:Shape)(b:uBl)(g:Bool):uBl×Int:=if s.uD≠4\/g=true then(b,0)else if 0<s.uC then([],12)else if(Z6 s s.uA.toNat b).2≠0 then([],(Z6 s s.uA.toNat b).2)else if za5 (Z6 s s.uA.toNat b).1 (lenT s) 0 then(fmt (lenT s) (quo (val (Z6 s s.uA.toNat b).1.uA) (Z6 s s.uA.toNat b).1.uC.toNat 0),0)else([],14)
theorem zfH{N:Nat}(hN:3000<N){s:Shape}{z:Nat}(h:MS s z){b:uBl}(hb:b.length=z)(hz:z<=400)(g:Bool):zcU N (fld s b) g=some (ntV s b g)/\(ntV s b g).1.length<=400:=by
 unfold zcU ntV;show cond (!decide (s.uD=4)) _ _=_/\_;rw[zf];by_cases h4:s.uD=4
 ·rw[if_pos h4];cases g with
  |true=>rw[cond_true,if_pos (.inr rfl)];exact⟨rfl,by rw[hb];exact hz⟩
  |false=>
   rw[cond_false,if_neg (by rintro(e|e);exact e h4;cases e)];show cond (decide (0<s.uC)) _ _=_/\_;rw[zb];by_cases hs0:0<s.uC
   ·rw[if_pos hs0,if_pos hs0];exact⟨rfl,uAE _⟩
   ·rw[if_neg hs0,if_neg hs0];obtain⟨n,hn⟩:=zmt h.chk h4 h.u0;have hz3:=zi5 hn;rw[<-h.sz4 hn]at hz3;rw[hn.nat,ziW hN hn h.chk h.pic (by omega),zc,zf];by_cases hg:(Z6 s n b).2=0
    ·have hs1:=hn.sc1;have h18:=hn.n18;have h1:=hn.n1;have hdg:=hn.dig;have el:(s.uA-s.uC)=((lenT s:Nat):Int):=by unfold lenT;omega
     have elt:lenT s=n+(-s.uC).toNat:=by unfold lenT;rw[hn.nat]
     rw[if_pos hg,if_neg (fun e=>e hg)];show chk (inKb .i64 (s.uA-s.uC)) (bnd (Vg N (Z6 s n b).1 (s.uA-s.uC) 0) _)=_/\_;rw[el,zn (by omega) (by omega),za,zfn hN (zku hn hg) (by omega) (by omega) (by decide) (by decide),zc];refine⟨rfl,?_⟩;split
     ·show(fmt _ _).length<=_;rw[jJ];omega
     ·show([]:uBl).length<=_;decide
    ·rw[if_neg hg,if_pos hg];exact⟨rfl,uAE _⟩
 ·rw[if_neg h4,if_pos (.inl h4)];exact⟨rfl,by rw[hb];exact hz⟩
def cmV(s:Shape)(b:uBl)(t:Shape)(c:uBl):Int×Int:=if s.uD=4/\t.uD=4 then if(Z6 s s.uA.toNat b).2≠0 then(0,(Z6 s s.uA.toNat b).2)else if(Z6 t t.uA.toNat c).2≠0 then(0,(Z6 t t.uA.toNat c).2)else(zz9 (Z6 s s.uA.toNat b).1 (Z6 t t.uA.toNat c).1,0)else if(ntV s b (decide (t.uD=0))).2≠0 then(0,(ntV s b (decide (t.uD=0))).2)else if(ntV t c (decide (s.uD=0))).2≠0 then(0,(ntV t c (decide (s.uD=0))).2)else(zAa (ntV s b (decide (t.uD=0))).1 (ntV t c (decide (s.uD=0))).1,0)
theorem zcV{N:Nat}(hN:3000<N)(hN2:N<=1000000){s t:Shape}{z z':Nat}(h:MS s z)(h':MS t z')(hz:z<=400)(hz':z'<=400){b c:uBl}(hb:b.length=z)(hc:c.length=z'):
  jH N (fld s b) (fld t c)=some (cmV s b t c):=by
 unfold jH;show bnd (jV N s) _=_;rw[zP (by omega) h.pic,h.chk,zc,decide_eq_true rfl,uAI,cond_false];show bnd (jV N t) _=_;rw[zP (by omega) h'.pic,h'.chk,zc,decide_eq_true rfl,uAI,cond_false];show cond (!decide ((b.length:Int)=s.uG)) _ (cond (!decide ((c.length:Int)=t.uG)) _ (cond (decide (s.uD=4)) (yB N (decide (t.uD=4)) _ _) (yB N false _ _)))=_;rw[decide_eq_true (by rw[h.siz,hb]),uAI,cond_false,decide_eq_true (by rw[h'.siz,hc]),uAI,cond_false,zb];have k:∀x:Bool,x=decide (s.uD=4/\t.uD=4)->yB N x (fld s b) (fld t c)=some (cmV s b t c):=by
  intro x hx;unfold yB cmV;by_cases h44:s.uD=4/\t.uD=4
  ·rw[hx,decide_eq_true h44,cond_true,if_pos h44];obtain⟨n,hn⟩:=zmt h.chk h44.1 h.u0;obtain⟨m,hm⟩:=zmt h'.chk h44.2 h'.u0;have hz3:=zi5 hn;rw[<-h.sz4 hn]at hz3;have hz4:=zi5 hm;rw[<-h'.sz4 hm]at hz4;rw[hn.nat,hm.nat,ziW hN hn h.chk h.pic (by omega),zc,zf];by_cases g1:(Z6 s n b).2=0
   ·rw[if_pos g1,if_neg (fun e=>e g1),ziW hN hm h'.chk h'.pic (by omega),zc,zf];by_cases g2:(Z6 t m c).2=0
    ·rw[if_pos g2,if_neg (fun e=>e g2),znl hN (zku hn g1) (zku hm g2),zc]
    ·rw[if_neg g2,if_pos g2]
   ·rw[if_neg g1,if_pos g1]
  ·rw[hx,decide_eq_false h44,cond_false,if_neg h44];obtain⟨t1,t2⟩:=zfH hN h hb hz (decide (t.uD=0));obtain⟨t3,t4⟩:=zfH hN h' hc hz' (decide (s.uD=0));show bnd (zcU N (fld s b) (decide (t.uD=0))) _=_;rw[t1,zc,zf];by_cases g1:(ntV s b (decide (t.uD=0))).2=0
   ·rw[if_pos g1,if_neg (fun e=>e g1)];show bnd (zcU N (fld t c) (decide (s.uD=0))) _=_;rw[t3,zc,zf];by_cases g2:(ntV t c (decide (s.uD=0))).2=0
    ·rw[if_pos g2,if_neg (fun e=>e g2),zdh (by omega) (by omega) hN2,zc]
    ·rw[if_neg g2,if_pos g2]
   ·rw[if_neg g1,if_pos g1]
 by_cases h4:s.uD=4
 ·rw[if_pos h4];exact k _ (by rw[decide_eq_decide];exact⟨fun e=>⟨h4,e⟩,fun e=>e.2⟩)
 ·rw[if_neg h4];exact k _ (by rw[decide_eq_false (fun e=>h4 e.1)])
end Go.Proofs.C06
end
section
set_option maxRecDepth 100000
namespace Go.Proofs.C06
open Go Go.RowKit Go.Vc Go.Am Go.Dg
theorem getV_err{s:Shape}{z:Nat}(h:MS s z)(h4:s.uD=4){b:uBl}(hb:b.length=z):(Z6 s s.uA.toNat b).2=0\/(Z6 s s.uA.toNat b).2=15:=by have h1:=zrU h (.inl h4) hb;unfold zqH at h1;rwa [if_pos h4]at h1
theorem zjT{s:Shape}{z:Nat}(h:MS s z){b:uBl}(hb:b.length=z)(g:Bool):(ntV s b g).2=0\/(ntV s b g).2=12\/(ntV s b g).2=14\/(ntV s b g).2=15:=by
 unfold ntV;split
 ·exact .inl rfl
 ·rename_i h0;have h4:s.uD=4:=Classical.byContradiction fun e=>h0 (.inl e)
  split
  ·exact .inr (.inl rfl)
  ·split
   ·rename_i he;rcases getV_err h h4 hb with e|e
    ·exact absurd e he
    ·exact .inr (.inr (.inr e))
   ·split
    ·exact .inl rfl
    ·exact .inr (.inr (.inl rfl))
theorem zyd{s t:Shape}{z z':Nat}(h:MS s z)(h':MS t z'){b c:uBl}(hb:b.length=z)(hc:c.length=z'):(cmV s b t c).2=0\/(cmV s b t c).2=12\/(cmV s b t c).2=14\/(cmV s b t c).2=15:=by
 unfold cmV;split
 ·rename_i h44;split
  ·rename_i he;rcases getV_err h h44.1 hb with e|e
   ·exact absurd e he
   ·exact .inr (.inr (.inr e))
  ·split
   ·rename_i he;rcases getV_err h' h44.2 hc with e|e
    ·exact absurd e he
    ·exact .inr (.inr (.inr e))
   ·exact .inl rfl
 ·split
  ·exact zjT h hb _
  ·split
   ·exact zjT h' hc _
   ·exact .inl rfl
section
variable {N : Nat} {s t : Shape} {b c : uBl} {z' : Nat}
theorem zvv(hN:3000<N)(hp:s.uB.length<=400)(h:chkV s≠0)(g:Field):jH N (fld s b) g=some (0,1):=by unfold jH;show bnd (jV N s) _=_;rw[zP (by omega) hp,zc,zf,if_neg h]
theorem zvu(hN:3000<N)(hp:s.uB.length<=400)(h:chkV s≠0)(h':MS t z'):jH N (fld t c) (fld s b)=some (0,1):=by unfold jH;show bnd (jV N t) _=_;rw[zP (by omega) h'.pic,h'.chk,zc,zf,if_pos rfl];show bnd (jV N s) _=_;rw[zP (by omega) hp,zc,zf,if_neg h]
theorem zvt(hN:3000<N)(hp:s.uB.length<=400)(h:chkV s=0)(hw:¬(b.length:Int)=s.uG)(h':MS t z'):jH N (fld s b) (fld t c)=some (0,5):=by unfold jH;show bnd (jV N s) _=_;rw[zP (by omega) hp,h,zc,zf,if_pos rfl];show bnd (jV N t) _=_;rw[zP (by omega) h'.pic,h'.chk,zc,zf,if_pos rfl];show cond (!decide ((b.length:Int)=s.uG)) _ _=_;rw[zf,if_neg hw]
theorem zvs(hN:3000<N)(hp:s.uB.length<=400)(h:chkV s=0)(hw:¬(b.length:Int)=s.uG)(h':MS t z')(hc:c.length=z'):jH N (fld t c) (fld s b)=some (0,5):=by unfold jH;show bnd (jV N t) _=_;rw[zP (by omega) h'.pic,h'.chk,zc,zf,if_pos rfl];show bnd (jV N s) _=_;rw[zP (by omega) hp,h,zc,zf,if_pos rfl];show cond (!decide ((c.length:Int)=t.uG)) _ (cond (!decide ((b.length:Int)=s.uG)) _ _)=_;rw[zf,if_pos (by rw[h'.siz,hc]),zf,if_neg hw]
theorem ztb(hN:3000<N)(hp:s.uB.length<=400)(h:chkV s≠0):zi4 N (fld s b)=some (false,1):=by unfold zi4;show bnd (jV N s) _=_;rw[zP (by omega) hp,zc,zf,if_neg h]
theorem zta(hN:3000<N)(hp:s.uB.length<=400)(h:chkV s=0)(hw:¬(b.length:Int)=s.uG):zi4 N (fld s b)=some (false,5):=by unfold zi4;show bnd (jV N s) _=_;rw[zP (by omega) hp,h,zc,zf,if_pos rfl];show cond (!decide ((b.length:Int)=s.uG)) _ _=_;rw[zf,if_neg hw]
theorem zvX(hN:3000<N){z:Nat}(h:MS s z)(hb:b.length=z)(h3:b.length<=300):∃v,zi4 N (fld s b)=some (v,0):=by
 unfold zi4;show∃v,bnd (jV N s) _=_;rw[zP (by omega) h.pic,h.chk,zc,zf,if_pos rfl];show∃v,cond (!decide ((b.length:Int)=s.uG)) _ _=_;rw[zf,if_pos (by rw[h.siz,hb])];show∃v,cond (decide (s.uD=4)) _ _=_;rw[zb];by_cases h4:s.uD=4
 ·rw[if_pos h4];obtain⟨n,hn⟩:=zmt h.chk h4 h.u0;rw[zru hN hn h.chk h.pic h3,zc];exact⟨_,rfl⟩
 ·rw[if_neg h4];show∃v,bnd (QG N b) _=_;rw[zk1 (by omega) (by omega),zc];exact⟨_,rfl⟩
theorem zs9(hN:3000<N)(hp:s.uB.length<=400)(h:chkV s≠0)(g:Field):zi3 N (fld s b) g=some (false,1):=by unfold zi3;show bnd (jV N s) _=_;rw[zP (by omega) hp,zc,zf,if_neg h]
theorem zs8(hN:3000<N)(hp:s.uB.length<=400)(h:chkV s=0)(hw:¬(b.length:Int)=s.uG)(g:Field):zi3 N (fld s b) g=some (false,5):=by unfold zi3;show bnd (jV N s) _=_;rw[zP (by omega) hp,h,zc,zf,if_pos rfl];show cond (!decide ((b.length:Int)=s.uG)) _ _=_;rw[zf,if_neg hw]
theorem zvW(hN:3000<N)(hN2:N<=1000000){z:Nat}(h:MS s z)(hb:b.length=z)(h3:b.length<=300)(g:Field):∃v e,zi3 N (fld s b) g=some (v,e)/\e≠1:=by
 unfold zi3;show∃v e,bnd (jV N s) _=_/\_;rw[zP (by omega) h.pic,h.chk,zc,zf,if_pos rfl];show∃v e,cond (!decide ((b.length:Int)=s.uG)) _ _=_/\_;rw[zf,if_pos (by rw[h.siz,hb])];obtain⟨t1,t2⟩:=zfH hN h hb (by omega) false;have t3:=zjT h hb false;rw[t1,zc,zf];generalize ntV s b false=v at t2 t3⊢;by_cases h0:v.2=0
 ·rw[if_pos h0];have hr:znI [32] (v.1.length:Int)=some (List.replicate v.1.length 32):=zyp 32 (by omega);rw[hr,zc,zdh (by omega) (by rw[mM];omega) hN2,zc];exact⟨_,0,rfl,by decide⟩
 ·rw[if_neg h0,zb,if_neg h0];exact⟨_,_,rfl,by omega⟩
theorem zr2(hN:3000<N):∃g,zfY N [32]=some g:=by
 obtain⟨n,rfl⟩:∃n,N=n+2:=⟨N-2,by omega⟩
 exact⟨_,rfl⟩
end
theorem zfP(f:Field)(x:F_64)(hc:0<=f.vD)(hu:0<=f.vH)(hx:FX x):∃N,yP N f x=some true:=by
 refine⟨4000,?_⟩;obtain⟨s,b,rfl⟩:∃s b,f=fld s b:=⟨zBb f,f.vJ,rfl⟩
 have hc:0<=s.uD:=hc;have hu:0<=s.uE:=hu;obtain⟨t,z',c,_,h',hz',_,hF,hcl⟩:=zAo (N:=4000) (by decide) hx;obtain⟨g,hg⟩:=zr2 (N:=4000) (by decide);unfold yP;show cond (decide (300<(b.length:Int))) _ _=_;rw[zb];by_cases hb3:300<(b.length:Int)
 ·rw[if_pos hb3]
 rw[if_neg hb3];show cond (decide (300<(s.uB.length:Int))) _ _=_;rw[zb];by_cases hp3:300<(s.uB.length:Int)
 ·rw[if_pos hp3]
 rw[if_neg hp3];have hp:s.uB.length<=400:=by omega
 show bnd (jV 4000 s) _=_;rw[zP (by decide) hp,zc,zf];have run:∀{w:Int}{r1 r3:Int×Int}{r4 r6:Bool×Int},jH 4000 (fld s b) (fld t c)=some r1->jH 4000 (fld t c) (fld s b)=some r3->zi4 4000 (fld s b)=some r4->zi3 4000 (fld s b) g=some r6->
   yO 4000 w (fld s b) x=cond (!decide (r4.2=w)) (some false) (cond (!decide (w=0)) (cond (decide (r1.2=w)) (cond (decide (r3.2=w)) (cond (decide (r6.2=w)) (some true) (some false)) (some false)) (some false))
    (cond (!decide (r1.2=1)) (cond (!decide (r1.2=5)) (cond (!decide (r6.2=1)) (some true) (some false)) (some false)) (some false))):=by
  intro w r1 r3 r4 r6 h1 h3 h4 h6;unfold yO;rw[hF,zc,h1,zc,zc,h3,zc,h4,zc,hg,zc,h6,zc]
 by_cases hk:chkV s=0
 ·rw[if_pos hk];show cond (!decide ((b.length:Int)=s.uG)) _ _=_;rw[zf];by_cases hw:(b.length:Int)=s.uG
  ·rw[if_pos hw];obtain⟨z,hm⟩:=zun hk hp hc hu;have hbz:b.length=z:=by have:=hm.siz;omega
   obtain⟨v,hv⟩:=zvX (N:=4000) (by decide) hm hbz (by omega);obtain⟨p,e,he,he1⟩:=zvW (N:=4000) (by decide) (by decide) hm hbz (by omega) g;have hn:=zyd hm h' hbz hcl;rw[run (zcV (by decide) (by decide) hm h' (by omega) hz' hbz hcl) (zcV (by decide) (by decide) h' hm hz' (by omega) hcl hbz) hv he];show cond (!decide ((cmV s b t c).2=1)) (cond (!decide ((cmV s b t c).2=5)) (cond (!decide (e=1)) (some true) (some false)) (some false)) (some false)=some true;rw[zf,if_neg (by omega),zf,if_neg (by omega),zf,if_neg he1]
  ·rw[if_neg hw,run (zvt (by decide) hp hk hw h') (zvs (by decide) hp hk hw h' hcl) (zta (by decide) hp hk hw) (zs8 (by decide) hp hk hw g)];rfl
 ·rw[if_neg hk,run (zvv (by decide) hp hk _) (zvu (by decide) hp hk h') (ztb (by decide) hp hk) (zs9 (by decide) hp hk g)];rfl
end Go.Proofs.C06
end
