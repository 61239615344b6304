/-
  A part of the proof of the laws.
-/
import Derived.Test.YtdkkileemeopbaaGreatDoorS7
import Derived.Test.YtdkkileemeopbaaGreatDoorUa
import Derived.Test.YtdkkileemeopbaaGreatDoorEc
import Derived.Test.YtdkkileemeopbaaGreatDoorUd
import Derived.Test.YtdkkileemeopbaaGreatDoorEd
import Derived.Test.YtdkkileemeopbaaGreatDoorEg
import Derived.Test.YtdkkileemeopbaaGreatDoorCi
section
set_option maxRecDepth 100000
namespace Go.Proofs.C06
open Go Go.RowKit Go.Vc Go.Am Go.Dg
def fit(b:uBp)(n:Nat)(left:Bool):uBp:=if left=true then List.replicate (n-b.length) 32++b.drop (b.length-n)else b.take n++List.replicate (n-b.length) 32
theorem zxQ(c:UInt8){m:Nat}(hm:m<=100000000):jZ [c] (m:Int)=some (List.replicate m c):=by
 have e:∀k:Nat,Lib.repeatL [c] k=List.replicate k c:=fun k=>by
  induction k with
  |zero=>rfl
  |succ k ih=>rw[Lib.repeatL,ih,nM];rfl
 unfold jZ;simp only[mP,mI,uAX];rw[decide_eq_true (show(0:Int)<=(m:Int)by omega),decide_eq_true (show(m:Int)<=9223372036854775807 by omega),decide_eq_true (by omega),e];rfl
theorem zxO{n:Nat}(h:n<=100000000):(zbi 1 (n:Int)&&decide ((n:Int)=(n:Int)))=true:=by show((Nat.ble (1*n) 281474976710656&&Nat.ble n 9223372036854775807)&&decide ((n:Int)=(n:Int)))=true;rw[decide_eq_true rfl,uAg,mD,uA9,uA9];omega
theorem zqw{l s:uBp}(h:s.length=l.length):yW l s 0 l.length=s:=by unfold yW;rw[uAP,nX,<-h,uAx,Nat.min_self,uAE,h,uA5,mV]
theorem ztQ(N:Nat){n:Nat}(h:n<=1048576):zpQ N (n:Int)=some 0:=by unfold zpQ;rw[zb,if_neg (by omega),zb,if_neg (by omega)]
theorem zpR(N:Nat){b:uBp}(hb:b.length<=100000000){n:Nat}(hn:n<=1048576)(left:Bool):zrq N b (n:Int) left=some (fit b n left,0):=by
 have hrep:yW (List.replicate n (0:UInt8)) (List.replicate n 32) 0 (List.replicate n (0:UInt8)).length=List.replicate n 32:=zqw (by simp);unfold zrq;rw[ztQ N hn,zc,decide_eq_true rfl,uAb,cond_false,zxO (by omega),za,zxQ 32 (by omega),zc,mP,hrep];cases left with
 |false=>rw[cond_false];unfold yW fit;rw[if_neg (by decide),uAP,nX,mN,uAE,List.drop_replicate];congr 3;rw[show n-min b.length n=n-b.length by omega]
 |true=>
  have e1:jA 0 ((n:Int)-(b.length:Int))=((n-b.length:Nat):Int):=by unfold jA;split<;>omega
  have e2:jA 0 ((b.length:Int)-(n:Int))=((b.length-n:Nat):Int):=by unfold jA;split<;>omega
  rw[cond_true,zh (by omega) (by omega),za,e1,mN,zw.2 ⟨by omega,by omega,Int.le_refl _⟩,za,zh (by omega) (by omega),za,e2,zw.2 ⟨by omega,by omega,Int.le_refl _⟩,za];have e3:Vc.sub b ((b.length-n:Nat):Int) (b.length:Int)=b.drop (b.length-n):=by unfold Vc.sub;rw[mP,mP,uAx]
  have e4:((n:Int)-((n-b.length:Nat):Int)).toNat=n-(n-b.length):=by omega
  rw[e3,e4,mP];unfold yW fit;rw[if_pos rfl,List.take_replicate,uAQ (by omega),mJ,List.drop_replicate,show n-(n-b.length+min (b.length-(b.length-n)) (n-(n-b.length)))=0 by omega,nF (by rw[mJ];omega)];congr 2;exact mV _
theorem zpS{N:Nat}(s:uBp)(hs:s.length<=1000000):∀(k i:Nat),i<=s.length->s.length-i<k->qZ N k s (s.length:Int) (i:Int)=some (decide (Digs (s.drop i)))
 |0,i,_,hk=>by omega
 |k+1,i,hi,hk=>by
  show Ye N (qZ N k) s _ _=_;unfold Ye;by_cases h:i<s.length
  ·have hd:s.drop i=s.getD i 0::s.drop (i+1):=by rw[mE,mC h];exact uAk h
   rw[decide_eq_true (by omega),cond_true,zt.2 ⟨by omega,by omega⟩,za];have hb:byteAt s (i:Int)=((s.getD i 0).toNat:Int):=rfl;rw[hb];have hdg:zj5 N ((s.getD i 0).toNat:Int)=some (decide (48<=(s.getD i 0).toNat/\(s.getD i 0).toNat<=57)):=by
    unfold zj5;rw[zb];by_cases h1:48<=(s.getD i 0).toNat
    ·rw[if_pos (by omega)];congr 1;exact decide_eq_decide.2 ⟨fun h=>⟨h1,by omega⟩,fun h=>by omega⟩
    ·rw[if_neg (by omega),decide_eq_false (fun h=>h1 h.1)]
   rw[hdg,zc,hd];by_cases h1:48<=(s.getD i 0).toNat/\(s.getD i 0).toNat<=57
   ·rw[decide_eq_true h1,uAb,cond_false,zh (by omega) (by omega),za,show(i:Int)+1=((i+1:Nat):Int)by omega,zpS s hs k (i+1) (by omega) (by omega)];congr 1;exact decide_eq_decide.2 ⟨fun h c hc=>by rcases mU.1 hc with rfl|hc;exact h1;exact h c hc,fun h c hc=>h c (nJ _ hc)⟩
   ·rw[decide_eq_false h1,uA4,cond_true,decide_eq_false (fun h=>h1 (h _ nZ))]
  ·have:s.length=i:=by omega
   subst this;rw[decide_eq_false (by omega),cond_false,uA5,decide_eq_true (show Digs []from Digs.nil)]
theorem zj3{N:Nat}{s:uBp}(hs:s.length<N)(hs2:s.length<=1000000):Wl N s=some (decide (s≠[]/\Digs s)):=by
 unfold Wl;rw[zg];by_cases h:s=[]
 ·rw[if_pos h,decide_eq_false (fun e=>e.1 h)]
 ·rw[if_neg h];unfold zcU;have:=zpS (N:=N) s hs2 N 0 (uAN _) (by omega);rw[show((0:Nat):Int)=0 from rfl]at this;rw[this,zc,nS];congr 1;exact decide_eq_decide.2 ⟨fun e=>⟨h,e⟩,fun e=>e.2⟩
end Go.Proofs.C06
end
section
set_option maxRecDepth 100000
namespace Go.Proofs.C06
open Go Go.RowKit Go.Vc Go.Am Go.Dg
def cutK(d:Decimal)(s:Int):Nat:=((d.uB.toNat:Int)-s).toNat
def XG(d:Decimal)(s:Int):Decimal:=gD d.uH (val d.uA/10^cutK d s*10^cutK d s) d.uB.toNat
theorem zwT{N:Nat}(hN:3000<N){d:Decimal}(hd:VD d){s:Int}(h1: -62<=s)(h2:s<=62):∃t,zmj N d s=some (XG d s,t,0):=by
 obtain⟨x,e,e1,e2,e3⟩:=zj0 hN hd (s:=s) (by omega) (by omega);have hf:=hd.form;obtain⟨g1,g2,g3,g4,g5,_⟩:=hd;refine⟨decide (val d.uA%10^(d.uB-s).toNat=0),?_⟩;rw[e1];by_cases h:d.uB<=s
 ·obtain⟨rfl,rfl⟩:=e2 h;unfold XG gD;rw[show cutK x s=0 by unfold cutK;omega,nH,Nat.div_one,mQ,hf]
 ·obtain⟨m,hm,hx⟩:=e3 (by omega);have ek:(d.uB-s).toNat=cutK d s:=by unfold cutK;omega
  rw[ek]at hm;have hv:val (d.uA.take (d.uA.length-m)++List.replicate m 48)=val d.uA/10^cutK d s*10^cutK d s:=by
   rw[yG,(jD g2 (by omega)).1];rcases uAS d.uA.length (cutK d s)with hlt|hge
   ·have hm':m=d.uA.length:=by omega
    rw[hm',uA6 (j9 g2),uA6 (zhE (mG _) g2 (by omega)),uAR,uAR]
   ·have hm':m=cutK d s:=by omega
    rw[hm']
  have e0:(-d.uB).toNat=0:=by omega
  have hn:nrm d.uH (d.uA.take (d.uA.length-m)++List.replicate m 48) d.uB=(XG d s,0):=by
   rw[zag,hv,e0,nH,mQ]
   ·rfl
   ·rw[hv,e0,nH,mQ];refine yi (by decide) (zhE (Nat.div_mul_le_self _ _) g2 g3)
   ·exact nD (zY _ _ _) (by omega)
  rw[hn]at hx;cases hx;rfl
theorem zo8(v S:Nat){s:Int}(hS:S<=62)(h1: -62<=s):v/10^((S:Int)-s).toNat*10^((S:Int)-s).toNat*10^(62+s).toNat=quo v S s*10^(62+S):=by
 unfold quo;by_cases h:s<=S
 ·rw[show(s-(S:Int)).toNat=0 by omega,nH,mQ,nL,<-uAu,show((S:Int)-s).toNat+(62+s).toNat=62+S by omega]
 ·rw[show((S:Int)-s).toNat=0 by omega,nH,Nat.div_one,mQ,Nat.div_one,nL,<-uAu,show(s-(S:Int)).toNat+(62+S)=(62+s).toNat by omega]
theorem ztF{d:Decimal}(hd:VD d){s:Int}(h1: -62<=s)(h2:s<=62):VD (XG d s)/\exact (val (XG d s).uA) (XG d s).uB.toNat s/\quo (val (XG d s).uA) (XG d s).uB.toNat s=quo (val d.uA) d.uB.toNat s:=by
 obtain⟨g1,g2,g3,g4,g5,_⟩:=hd;have hS62:d.uB.toNat<=62:=by omega
 have hvd:VD (XG d s):=VD.of (yi (by decide) (zhE (Nat.div_mul_le_self _ _) g2 g3)) (nD (zY _ _ _) (by omega));have hg:=zjB d.uH (val d.uA/10^cutK d s*10^cutK d s) hS62;have hS':(XG d s).uB.toNat<=62:=by have:=hvd.2.2.2.2.1;omega
 have key:val (XG d s).uA*10^(62+s).toNat=quo (val d.uA) d.uB.toNat s*10^(62+(XG d s).uB.toNat):=by
  refine uAt (pow_pos (62+(d.uB.toNat:Int)).toNat) ?_;have hg':val (XG d s).uA*10^(62+(d.uB.toNat:Int)).toNat=val d.uA/10^cutK d s*10^cutK d s*10^(62+(XG d s).uB.toNat):=hg;have e1:(62+(d.uB.toNat:Int)).toNat=62+d.uB.toNat:=by omega
  rw[Nat.mul_right_comm,hg',Nat.mul_right_comm,Nat.mul_right_comm (quo _ _ _),e1];congr 1;exact zo8 (val d.uA) d.uB.toNat hS62 h1
 exact⟨hvd,((J2 (n:=quo (val d.uA) d.uB.toNat s) hS' (by omega) (by omega)).2 ⟨_,KF _,key⟩).1,ze8 hS' (by omega) (by omega) key⟩
def grD(ng:Bool)(q:Nat)(sc:Int):Decimal:=yS (canon ng (q*10^(-sc).toNat) sc.toNat)
theorem zwq{N:Nat}(hN:3000<N){d:Decimal}(hd:VD d){n:Nat}{sc:Int}(h1:1<=n)(h18:n<=18)(hs1: -18<=sc)(hs:sc<=18)(he:exact (val d.uA) d.uB.toNat sc):
  zk6 N d (n:Int) sc=some (grD d.uH (quo (val d.uA) d.uB.toNat sc%10^n) sc,0):=by
 obtain⟨t,e1,e2,e3,e4,e5⟩:=(VK hN hd (n:=n) (s:=sc) (by omega) (by omega) (by omega)).1 he;have hl:d.uA.length<=1000:=by have:=hd.2.2.1;omega
 unfold zk6;rw[zcj hN hl h1 (by omega) (by omega) (by omega),if_pos hd,zc,zg,if_pos rfl,e1,zc];dsimp only;have hin:zm ((t.length:Int)-(n:Int)) (t.length:Int) t.length=true:=by unfold zm;simp<;>omega
 have hv:val (t.drop (t.length-n))=quo (val d.uA) d.uB.toNat sc%10^n:=by rw[(jD e2 e4).2,e3]
 have hlt:quo (val d.uA) d.uB.toNat sc%10^n<10^n:=uBa _ (pow_pos n);have hne:t.drop (t.length-n)≠[]:=by intro h;have:=congrArg List.length h;rw[mJ,uAX]at this;omega
 have h10:(10:Nat)^n<=10^18:=nR (by decide) h18;have hvd:=zlS (ng:=d.uH) (q:=quo (val d.uA) d.uB.toNat sc%10^n) (sc:=sc) (by omega) hs1 hs;obtain⟨_,_,v3,_,v5,_⟩:=hvd;have v3:(canon d.uH (quo (val d.uA) d.uB.toNat sc%10^n*10^(-sc).toNat) sc.toNat).2.1.length<=62:=v3;rw[uAb,cond_false,zh (by omega) (by omega),za,hin,za,Wg _ e4,zbQ hN _ (e2.drop _) hne (by rw[mJ];omega) (by omega) (by omega),zc,zag,hv]
 ·rfl
 ·rw[hv];exact v3
 ·exact nD (zY _ _ _) (by omega)
def Wt(d:Decimal)(n:Nat)(sc:Int):Nat:=quo (val d.uA) d.uB.toNat sc%10^n
def KG(s:Shape)(n:Nat)(d:Decimal):Bool:=(d.uH&&decide (Wt d n s.uB≠0))&&s.uE
theorem ztG(d:Decimal)(s:Int):(XG d s).uH=(d.uH&&decide (val d.uA/10^cutK d s*10^cutK d s≠0)):=zjA _ _ _
theorem zuR{d:Decimal}(hS:d.uB.toNat<=62){n:Nat}{sc:Int}(h1: -62<=sc)(h:Wt d n sc≠0):(XG d sc).uH=d.uH:=by
 rw[ztG];have:val d.uA/10^cutK d sc*10^cutK d sc≠0:=by
  intro e;have hk:=zo8 (val d.uA) d.uB.toNat hS h1;have e':val d.uA/10^((d.uB.toNat:Int)-sc).toNat*10^((d.uB.toNat:Int)-sc).toNat=0:=e;rw[e',uAR]at hk;have:quo (val d.uA) d.uB.toNat sc=0:=by
   rcases Nat.mul_eq_zero.1 hk.symm with h|h
   ·exact h
   ·exact absurd h (Nat.ne_of_gt (pow_pos _))
  apply h;unfold Wt;rw[this,Nat.zero_mod]
 rw[decide_eq_true this,uAg]
theorem zu0(ng:Bool)(q:Nat)(sc:Int):(grD ng q sc).uH=(ng&&decide (q≠0)):=by show(canon ng (q*10^(-sc).toNat) sc.toNat).1=_;rw[zgg];congr 1;exact decide_eq_decide.2 ⟨fun h e=>h (by rw[e,uAR]),fun h=>Nat.mul_ne_zero h (Nat.ne_of_gt (pow_pos _))⟩
theorem zqX{ng ng':Bool}{q:Nat}(sc:Int)(h:q≠0->ng=ng'):grD ng q sc=grD ng' q sc:=by unfold grD;rw[zig (fun e=>h (fun e0=>e (by rw[e0,uAR])))]
theorem zwz{N:Nat}(hN:3000<N){d:Decimal}(hd:VD d){n:Nat}{sc:Int}(h1:1<=n)(h18:n<=18)(hs1: -18<=sc)(hs:sc<=18):
  zk6 N (XG d sc) (n:Int) sc=some (grD d.uH (Wt d n sc) sc,0):=by
 obtain⟨c1,c2,c3⟩:=ztF hd (s:=sc) (by omega) (by omega);rw[zwq hN c1 h1 h18 hs1 hs c2,c3];have e:grD (XG d sc).uH (Wt d n sc) sc=grD d.uH (Wt d n sc) sc:=zqX sc fun h=>zuR (by have:=hd.2.2.2.2.1;omega) (by omega) h
 show some (grD (XG d sc).uH (Wt d n sc) sc,(0:Int))=_;rw[e]
theorem zej(d:Decimal)(n:Nat)(sc:Int):Wt d n sc<10^n:=uBa _ (pow_pos n)
theorem zs1{ng:Bool}{q n:Nat}{sc:Int}(hq:q<10^n)(hn:n<=18)(h1: -18<=sc)(h2:sc<=18):VD (grD ng q sc):=by have h10:(10:Nat)^n<=10^18:=nR (by decide) hn;exact zlS (by omega) h1 h2
theorem zuZ(ng:Bool){q n:Nat}{sc:Int}(hq:q<10^n)(h1: -18<=sc)(h2:sc<=18):qV (grD ng q sc) n sc/\quo (val (grD ng q sc).uA) (grD ng q sc).uB.toNat sc=q:=by refine⟨(zqW ng q n h1 h2).2 hq,?_⟩;have hg:=zgh ng q (sc:=sc) (by omega);have hcs:=zY ng (q*10^(-sc).toNat) sc.toNat;show quo (val (canon ng (q*10^(-sc).toNat) sc.toNat).2.1) (((canon ng (q*10^(-sc).toNat) sc.toNat).2.2:Int)).toNat sc=q;rw[mP];exact ze8 (by omega) (by omega) (by omega) hg
theorem zsr(s:Shape){n q:Nat}(ng:Bool)(hq:q<10^n)(h1: -18<=s.uB)(h2:s.uB<=18):zuD s n (grD ng q s.uB)=(wr s n ((ng&&decide (q≠0))&&s.uE) (fmt n q),0):=by obtain⟨f1,f2⟩:=zuZ ng hq h1 h2;unfold zuD;rw[if_pos f1,f2,zu0]
theorem zuP{N:Nat}(hN:3000<N){s:Shape}{n:Nat}(h:NS s n)(hc:chkV s=0)(hp:s.uC.length<=400){d:Decimal}(hd:VD d):
  zuQ N d s=some (wr s n (KG s n d) (fmt n (Wt d n s.uB)),0):=by
 have h1:=h.sc1;have h2:=h.sc2;obtain⟨t,e1⟩:=zwT hN hd (s:=s.uB) (by omega) (by omega);unfold zuQ;rw[e1,zc];dsimp only;rw[decide_eq_true rfl,uAb,cond_false,h.dig,zwz hN hd h.n1 h.n18 h1 h2,zc];dsimp only;rw[decide_eq_true rfl,uAb,cond_false,zue hN h hc hp (zs1 (zej d n s.uB) h.n18 h1 h2),zsr s d.uH (zej d n s.uB) h1 h2,zc];rfl
end Go.Proofs.C06
end
section
set_option maxRecDepth 100000
namespace Go.Proofs.C06
open Go Go.RowKit Go.Vc Go.Am Go.Dg
structure MS(s:Shape)(z:Nat):Prop where
 chk:chkV s=0
 pic:s.uC.length<=400
 siz:s.uG=(z:Int)
 c0:0<=s.uD
 c5:s.uD<=5
 u0:0<=s.uI
 zle:z<=1048576
 zl:s.uD≠0->z<=400
theorem zms{s:Shape}(h:chkV s=0):ZC s=0:=by
 unfold chkV at h;by_cases hE:ZC s=0
 ·exact hE
 ·rw[if_pos hE]at h;exact absurd h hE
theorem zsF{s:Shape}(h:chkV s=0)(hp:s.uC.length<=400)(hc:0<=s.uD)(hu:0<=s.uI):∃z,MS s z:=by
 have hE:=zms h;have hE':=hE;unfold ZC at hE;split at hE
 ·cases hE
 ·rename_i h1;split at hE
  ·cases hE
  ·rename_i h2;split at hE
   ·cases hE
   ·rename_i h3;by_cases h0:s.uD=0
    ·refine⟨s.uG.toNat,h,hp,by omega,hc,by omega,hu,by omega,fun e=>absurd h0 e⟩
    ·have hs:=zup h h0;have hz:0<=sizeV s/\sizeV s<=400:=by
      unfold sizeV;rw[if_neg h0];split
      ·have:szN s.uC<=s.uC.length:=by unfold szN;omega
       omega
      ·repeat' split
       all_goals omega
     refine⟨s.uG.toNat,h,hp,by omega,hc,by omega,hu,by omega,fun _=>by omega⟩
def alw(a b:Int):Bool:=decide ((bits .and .u8 ((Am.j5 (atV [.int .u8 63,.int .u8 15,.int .u8 63,.int .u8 15,.int .u8 61,.int .u8 61] a))/2^b.toNat) 1)=1)
def Y0(s t:Shape):Bool:=if s.uD=4/\0<s.uB/\(t.uD=2\/t.uD=3)then false else alw s.uD t.uD
theorem zlD(N:Nat){s t:Shape}(h1:0<=s.uD)(h2:s.uD<=5)(h3:0<=t.uD)(h4:t.uD<=5):KE N s t=some (Y0 s t):=by
 have k1:qz N s t=some (alw s.uD t.uD):=by
  unfold qz;have hn:(zf t.uD&&Nat.ble t.uD.toNat 8)=true:=by unfold zf;rw[decide_eq_true h3,uAp,uA9];omega
  rw[zt.2 ⟨h1,by omega⟩,za,hn,za];rfl
 have k0:∀x:Bool,x=decide (t.uD=2\/t.uD=3)->ZI N x s t=some (Y0 s t):=by
  intro x hx;unfold ZI Y0;rw[k1,zb];by_cases e4:s.uD=4
  ·rw[if_pos e4,zb];by_cases es:0<s.uB
   ·rw[if_pos es];cases x with
    |true=>rw[cond_true,if_pos ⟨e4,es,of_decide_eq_true hx.symm⟩]
    |false=>rw[cond_false,if_neg (fun e=>of_decide_eq_false hx.symm e.2.2)]
   ·rw[if_neg es,if_neg (fun e=>es e.2.1)]
  ·rw[if_neg e4,if_neg (fun e=>e4 e.1)]
 unfold KE;rw[zb];by_cases e2:t.uD=2
 ·rw[if_pos e2];exact k0 _ (decide_eq_true (.inl e2)).symm
 ·rw[if_neg e2];exact k0 _ (decide_eq_decide.2 ⟨fun e=>.inr e,fun e=>by rcases e with e|e;exact absurd e e2;exact e⟩)
theorem zt3{s t:Shape}(h4:s.uD=4)(h:Y0 s t=true)(h1:0<=t.uD)(h2:t.uD<=5)(ht:t.uD≠0)(ht4:t.uD≠4)(ht5:t.uD≠5):s.uB<=0:=by
 unfold Y0 at h;split at h
 ·cases h
 ·rename_i hn;have:t.uD=1\/t.uD=2\/t.uD=3:=by omega
  rcases this with e|e|e
  ·rw[h4,e]at h;exact absurd h (by decide)
  ·apply Classical.byContradiction;intro hs;exact hn ⟨h4,by omega,.inl e⟩
  ·apply Classical.byContradiction;intro hs;exact hn ⟨h4,by omega,.inr e⟩
def ZZ(s:Shape)(b:uBp):Decimal×Int:=if s.uD=4 then KW s s.uA.toNat b else if s.uD=5 then WX s s.uA.toNat s.uB.toNat b else if(Lib.trimS b [32]≠[]/\Digs (Lib.trimS b [32]))/\(Lib.trimS b [32]).length<=62 then nrm false (Lib.trimS b [32]) 0 else(zew,15)
theorem NS.nat{s:Shape}{n:Nat}(h:NS s n):s.uA.toNat=n:=by have:=h.dig;omega
theorem ES.nat{s:Shape}{n sc:Nat}{sg:Bool}(h:ES s n sc sg):s.uA.toNat=n/\s.uB.toNat=sc:=by have:=h.dig;have:=h.scl;omega
theorem zrR(b cs:uBp):(Lib.trimS b cs).length<=b.length:=by
 have h:∀(p:UInt8->Bool)(l:uBp),(l.dropWhile p).length<=l.length:=fun p l=>(uBe p).length_le
 unfold Lib.trimS Lib.trimRightS Lib.trimLeftS;refine nD (h _ _) ?_;rw[List.length_reverse];refine nD (h _ _) ?_;rw[List.length_reverse];exact mG _
theorem zuK{l:uBp}(hd:Digs l)(hl:l.length<=62)(h0:l≠[]):∃d,nrm false l 0=(d,0)/\VD d:=by
 have h1:1<=l.length:=by cases l with|nil=>exact absurd rfl h0|cons _ _=>simp
 have hv:val l<10^l.length:=j9 hd;have c1:(canon false (val l*10^(-(0:Int)).toNat) (0:Int).toNat).2.1.length<=62:=by rw[show(-(0:Int)).toNat=0 from rfl,nH,mQ];exact nD (yi h1 hv) hl
 have c2:(canon false (val l*10^(-(0:Int)).toNat) (0:Int).toNat).2.2<=62:=nD (zY _ _ _) (by decide);exact⟨_,zag c1 c2,VD.of c1 c2⟩
theorem zpB{s:Shape}{n:Nat}(h:NS s n){b:uBp}(h0:(KW s n b).2=0):VD (KW s n b).1:=by
 unfold KW at h0⊢;by_cases hr:(Qa s n b).2=0
 ·rw[if_pos hr];obtain⟨r1,r2,r3⟩:=ze5 h hr;rw[r3];obtain⟨d1,d2⟩:=zo7 h r1 r2;exact (zi9 h d1 d2).1
 ·rw[if_neg hr]at h0;exact absurd h0 hr
theorem ztZ{s:Shape}{n sc:Nat}{sg:Bool}(h:ES s n sc sg){b:uBp}(h0:(WX s n sc b).2=0):VD (WX s n sc b).1:=by
 have h18:=h.n18;have hsc:=h.scn;have hq:=(zmB h b).2.2;unfold WX at h0⊢;split at h0
 ·cases h0
 ·rename_i e1;rw[if_neg e1];split at h0
  ·rename_i e2;rw[if_pos e2];exact zs7 (n:=n) (by omega) h.n1 hq (by omega)
  ·rename_i e2;rw[if_neg e2];split at h0
   ·rename_i e3;rw[if_pos e3];exact zs7 (n:=n) (by omega) h.n1 hq (by omega)
   ·cases h0
theorem ziN{s:Shape}{n:Nat}(h:NS s n):szV s n<=300:=by
 have:=h.n18;unfold szV binW
 repeat' split
 all_goals omega
theorem MS.sz4{s:Shape}{z n:Nat}(h:MS s z)(hn:NS s n):z=szV s n:=by have h1:=h.siz;have h2:=hn.size;omega
theorem znI{N:Nat}(hN:3000<N){s:Shape}{z:Nat}(h:MS s z)(h0:s.uD≠0){b:uBp}(hb:b.length=z):
  zei N (fld s b)=some (ZZ s b)/\((ZZ s b).2=0->VD (ZZ s b).1):=by
 have hz:=h.zl h0;unfold zei ZZ;show cond (decide (s.uD=4)) _ (cond (decide (s.uD=5)) _ _)=_/\_;rw[zb];by_cases h4:s.uD=4
 ·rw[if_pos h4,if_pos h4];obtain⟨n,hn⟩:=zpg h.chk h4 h.u0;have hz:=ziN hn;rw[<-h.sz4 hn]at hz;rw[hn.nat,ziH hN hn h.chk h.pic (by omega),zc];exact⟨rfl,zpB hn⟩
 ·rw[if_neg h4,if_neg h4,zb];by_cases h5:s.uD=5
  ·rw[if_pos h5,if_pos h5];obtain⟨n,sc,sg,hn⟩:=zpI h.chk h5;rw[hn.nat.1,hn.nat.2];have:=zmQ hN hn h.chk b;rw[show fld s b=zx2 s b from rfl,this,zc];exact⟨rfl,ztZ hn⟩
  ·rw[if_neg h5,if_neg h5];have hl:=zrR b [32];show bnd (ZL b [32]) _=_/\_;rw[zbp (by omega) (by decide) (by decide),zc,zj3 (by omega) (by omega),zc,zg];by_cases hd:Lib.trimS b [32]≠[]/\Digs (Lib.trimS b [32])
   ·rw[if_pos hd,zb];by_cases h62:(Lib.trimS b [32]).length<=62
    ·obtain⟨d,e1,e2⟩:=zuK hd.2 h62 hd.1;rw[if_neg (by omega),if_pos ⟨hd,h62⟩,zbQ hN false hd.2 hd.1 (by omega) (by decide) (by decide),zc,e1];exact⟨rfl,fun _=>e2⟩
    ·rw[if_pos (by omega),if_neg (fun e=>h62 e.2)];exact⟨rfl,fun e=>by cases e⟩
   ·rw[if_neg hd,if_neg (fun e=>hd e.1)];exact⟨rfl,fun e=>by cases e⟩
def yk(t:Shape)(d:Decimal):uBp×Int:=if t.uD=5 then((edT t t.uA.toNat d.uH (Z7 d t.uA.toNat t.uB.toNat)).getD [],0)else(wr t t.uA.toNat (KG t t.uA.toNat d) (fmt t.uA.toNat (Wt d t.uA.toNat t.uB)),0)
def lenT(s:Shape):Nat:=s.uA.toNat+(-s.uB).toNat
def Kh(s t:Shape)(b:uBp):uBp×Int:=if s.uD≠4\/t.uD=0 then(b,0)else if(KW s s.uA.toNat b).2≠0 then([],(KW s s.uA.toNat b).2)else if qV (KW s s.uA.toNat b).1 (lenT s) 0 then(fmt (lenT s) (quo (val (KW s s.uA.toNat b).1.uA) (KW s s.uA.toNat b).1.uB.toNat 0),0)else([],14)
theorem zsM{N:Nat}(hN:3000<N){s t:Shape}{z:Nat}(h:MS s z)(hsc:s.uD=4->t.uD≠0->s.uB<=0){b:uBp}(hb:b.length=z):zpt N (fld s b) t=some (Kh s t b)/\(Kh s t b).1.length<=1048576:=by
 have hz:=h.zle;unfold zpt Kh;show cond (!decide (s.uD=4)) _ _=_/\_;rw[zg];by_cases h4:s.uD=4
 ·rw[if_pos h4,zb];by_cases t0:t.uD=0
  ·rw[if_pos t0,if_pos (.inr t0)];exact⟨rfl,by rw[hb];exact hz⟩
  ·rw[if_neg t0,if_neg (by rintro(e|e);exact e h4;exact t0 e)];obtain⟨n,hn⟩:=zpg h.chk h4 h.u0;have hz3:=ziN hn;rw[<-h.sz4 hn]at hz3;rw[hn.nat,ziH hN hn h.chk h.pic (by omega),zc,zg];by_cases hg:(KW s n b).2=0
   ·have hs0:=hsc h4 t0;have hs1:=hn.sc1;have h18:=hn.n18;have h1:=hn.n1;have hdg:=hn.dig;have em:jA s.uB 0=0:=by unfold jA;split<;>omega
    have el:(s.uA-s.uB)+jA s.uB 0=((lenT s:Nat):Int):=by unfold lenT;rw[em];omega
    have elt:lenT s=n+(-s.uB).toNat:=by unfold lenT;rw[hn.nat]
    rw[if_pos hg,if_neg (fun e=>e hg)];show chk (zd .i64 (s.uA-s.uB)) (chk (zd .i64 ((s.uA-s.uB)+jA s.uB 0)) (bnd (Yp N (KW s n b).1 ((s.uA-s.uB)+jA s.uB 0) 0) _))=_/\_;rw[el,zh (by omega) (by omega),za,zh (by omega) (by omega),za,zac hN (zpB hn hg) (by omega) (by omega) (by decide) (by decide),zc];refine⟨rfl,?_⟩;split
    ·show(fmt _ _).length<=_;rw[zW];omega
    ·show([]:uBp).length<=_;decide
   ·rw[if_neg hg,if_pos hg];exact⟨rfl,uAN _⟩
 ·rw[if_neg h4,if_pos (.inl h4)];exact⟨rfl,by rw[hb];exact hz⟩
def mvV(s t:Shape)(b:uBp):uBp×Int:=if Y0 s t=false then([],12)else if s.uD=0 then(fit b t.uG.toNat false,0)else if t.uD=4\/t.uD=5 then(if(ZZ s b).2≠0 then([],(ZZ s b).2)else yk t (ZZ s b).1)else if(Kh s t b).2≠0 then([],(Kh s t b).2)else if t.uD=3 then(txt t.uC (Kh s t b).1,0)else(fit (Kh s t b).1 t.uG.toNat t.uN,0)
theorem zxS{t:Shape}(h:chkV t=0)(h3:t.uD=3):XZ t 3=0:=by unfold XZ;rw[if_neg (fun e=>e h),if_neg (fun e=>e h3)]
theorem zsO{N:Nat}(hN:3000<N){s t:Shape}{z z':Nat}(h:MS s z)(h':MS t z'){b:uBp}(hb:b.length=z):zpu N (fld s b) t=some (mvV s t b):=by
 have hz:=h.zle;have hz':=h'.zle;have hS:s.uG.toNat=z:=by have:=h.siz;omega
 have hT:t.uG.toNat=z':=by have:=h'.siz;omega
 have k1:∀x:Bool,Y0 s t=true->s.uD≠0->x=decide (t.uD=4\/t.uD=5)->KC N x (fld s b) t=some (mvV s t b):=by
  intro x hal h0 hx;unfold KC mvV;rw[if_neg (by rw[hal];decide),if_neg h0];cases x with
  |true=>
   have ht:=of_decide_eq_true hx.symm;obtain⟨e1,e2⟩:=znI hN h h0 hb;rw[cond_true,if_pos ht,e1,zc,zg];by_cases hn:(ZZ s b).2=0
   ·rw[if_pos hn,if_neg (fun e=>e hn),zb];unfold yk;by_cases h5:t.uD=5
    ·rw[if_pos h5,if_pos h5];obtain⟨n,sc,sg,hes⟩:=zpI h'.chk h5;obtain⟨r,f1,f2⟩:=zt9 hN hes h'.chk (e2 hn);rw[hes.nat.1,hes.nat.2,f2,f1,zc];rfl
    ·rw[if_neg h5,if_neg h5];have h4:t.uD=4:=by omega
     obtain⟨n,hns⟩:=zpg h'.chk h4 h'.u0;rw[hns.nat,zuP hN hns h'.chk h'.pic (e2 hn),zc]
   ·rw[if_neg hn,if_pos hn]
  |false=>
   have ht:=of_decide_eq_false hx.symm;obtain⟨e1,e2⟩:=zsM (t:=t) hN h (fun h4 t0=>zt3 h4 hal h'.c0 h'.c5 t0 (fun e=>ht (.inl e)) (fun e=>ht (.inr e))) hb;rw[cond_false,if_neg ht,e1,zc,zg];by_cases hn:(Kh s t b).2=0
   ·rw[if_pos hn,if_neg (fun e=>e hn),zb];by_cases h3:t.uD=3
    ·have hk:=zxS h'.chk h3;have hzz:=h'.zl (by omega);rw[if_pos h3,if_pos h3,zt8 (by omega) h'.pic _ (fun _=>by have:=h'.siz;omega),if_neg (fun e=>e hk),zc]
    ·rw[if_neg h3,if_neg h3,h'.siz,zpR N (by omega) hz',zc,mP]
   ·rw[if_neg hn,if_pos hn]
 have k0:KD N false (fld s b) t=some (mvV s t b):=by
  unfold KD;rw[cond_false];show cond (!decide ((b.length:Int)=s.uG)) _ (bnd (KE N s t) _)=_;rw[decide_eq_true (by rw[hb,h.siz]),uAb,cond_false,zlD N h.c0 h.c5 h'.c0 h'.c5,zc];cases hal:Y0 s t with
  |false=>rw[uA4,cond_true];unfold mvV;rw[if_pos hal]
  |true=>
   rw[uAb,cond_false];show cond (decide (s.uD=0)) (bnd (zrq N b t.uG false) _) _=_;rw[zb];by_cases h0:s.uD=0
   ·rw[if_pos h0,h'.siz,zpR N (by omega) hz',zc];unfold mvV;rw[if_neg (by rw[hal];decide),if_pos h0,hT]
   ·rw[if_neg h0,zb];by_cases h4:t.uD=4
    ·rw[if_pos h4];exact k1 true hal h0 (decide_eq_true (.inl h4)).symm
    ·rw[if_neg h4];exact k1 _ hal h0 (decide_eq_decide.2 ⟨fun e=>.inr e,fun e=>by rcases e with e|e;exact absurd e h4;exact e⟩)
 unfold zpu;show bnd (zdF N s) _=_;rw[Wr (by omega) h.pic,h.chk,zc,decide_eq_true rfl,uAb,cond_false,Wr (by omega) h'.pic,h'.chk,zc,decide_eq_true rfl,uAb];exact k0
end Go.Proofs.C06
end
section
set_option maxRecDepth 100000
namespace Go.Proofs.C06
open Go Go.RowKit Go.Vc Go.Am Go.Dg
end Go.Proofs.C06
end
section
set_option maxRecDepth 100000
namespace Go.Proofs.C06
open Go Go.RowKit Go.Vc Go.Am Go.Dg
theorem zwO{N:Nat}(hN:3000<N){x:F}(h1:0<=x.uA)(h2:x.uA<=255)(h3:0<=x.uM)(h4:x.uM<=255)(h5:0<=x.uO)(h6:x.uO<=255):
  ∃s n ng l,zas N x=some s/\NS s n/\chkV s=0/\s.uC.length<=400/\Digs l/\l.length=n/\(ng=true->s.uE=true/\val l≠0)/\fOf N x=some (fld s (wr s n ng l))/\zen N x=some (zja s ng l):=by
 have hsh:=zh3 (N:=N) hN (x:=x) (dg:=x.uA.toNat) (fm:=x.uO.toNat) (pt:=x.uM.toNat) (by omega) (by omega) (by omega) (by omega) (by omega) (by omega);obtain⟨n,hn⟩:∃n,n=x.uA.toNat%18+1:=⟨_,rfl⟩
 obtain⟨l,ht,hd,hl⟩:=ztg (N:=N) hN (x:=x) h1;rw[<-hn]at hsh hl;obtain⟨hns,hc,hp⟩:=zr5 (n:=n) (pt:=x.uM.toNat) (fm:=x.uO.toNat) (by omega) (by omega);generalize shX n x.uM.toNat x.uO.toNat=s at hsh hns hc hp;have h18:=hns.n18;have hsc1:=hns.sc1;have hsc2:=hns.sc2;have hk:(10:Nat)^(-s.uB).toNat≠0:=Nat.ne_of_gt (pow_pos _);have hv:∀ng:Bool,zcv N ng l s.uB=some (yS (canon ng (val l*10^(-s.uB).toNat) s.uB.toNat)):=fun ng=>zqM hN ng hd (by omega) (by omega) (by omega)
 obtain⟨ng,hng⟩:∃ng,ng=(x.uH&&(s.uE&&decide (val l≠0))):=⟨_,rfl⟩
 refine⟨s,n,ng,l,hsh,hns,hc,hp,hd,hl,?_,?_,?_⟩
 ·intro e;rw[hng]at e;simp only[mD,decide_eq_true_eq]at e;exact e.2
 ·unfold fOf;rw[hsh,zc,ht,zc,zqO hN hns hd hl x.uH,zc,<-hng];rfl
 ·have e:∀g:Bool,(val l≠0->g=ng)->yS (canon g (val l*10^(-s.uB).toNat) s.uB.toNat)=zja s ng l:=by intro g hg;unfold zja;rw[zig (fun h=>hg (fun e=>h (by rw[e,uAR])))]
  unfold zen;rw[hsh,zc];cases hxn:x.uH with
  |true=>rw[cond_true,ht,zc,hv,zc,e s.uE];intro h;rw[hng,hxn,decide_eq_true h,uAp,uAg]
  |false=>rw[cond_false,ht,zc,hv,zc,e false];intro _;rw[hng,hxn];rfl
theorem zs4{t:Shape}{n:Nat}(h:NS t n)(d:Decimal):KW t n (wr t n (KG t n d) (fmt n (Wt d n t.uB)))=(grD (KG t n d) (Wt d n t.uB) t.uB,0):=by have hv:=Z1 n _ (zej d n t.uB);rw[zpA h (jQ _ _) (zW _ _) (fun e=>by unfold KG at e;simp only[mD,decide_eq_true_eq]at e;exact⟨e.2,by rw[hv];exact e.1.2⟩)];unfold zja grD;rw[hv]
end Go.Proofs.C06
end
section
set_option maxRecDepth 100000
namespace Go.Proofs.C06
open Go Go.RowKit Go.Vc Go.Am Go.Dg
end Go.Proofs.C06
end
section
set_option maxRecDepth 100000
namespace Go.Proofs.C06
open Go Go.RowKit Go.Vc Go.Am Go.Dg
end Go.Proofs.C06
end
section
set_option maxRecDepth 100000
namespace Go.Proofs.C06
open Go Go.RowKit Go.Vc Go.Am Go.Dg
theorem zm7{t:Shape}{z:Nat}(h:MS t z)(h45:t.uD=4\/t.uD=5){d:Decimal}(_hd:VD d):(yk t d).2=0/\(yk t d).1.length=z:=by
 unfold yk;by_cases h5:t.uD=5
 ·obtain⟨n,sc,sg,hes⟩:=zpI h.chk h5;have hq:Z7 d n sc<10^n:=uBa _ (pow_pos n);rw[if_pos h5,hes.nat.1,hes.nat.2,zep hes d.uH hq];have:=zmg hes (jQ n (Z7 d n sc)) (zW n (Z7 d n sc)) (d.uH&&decide (Z7 d n sc≠0));have:=h.siz;exact⟨rfl,by show(Ka t (fmt n (Z7 d n sc)) (d.uH&&decide (Z7 d n sc≠0))).length=z;omega⟩
 ·have h4:t.uD=4:=by omega
  obtain⟨n,hns⟩:=zpg h.chk h4 h.u0;have hv:=Z1 n _ (zej d n t.uB);rw[if_neg h5,hns.nat];refine⟨rfl,?_⟩;show(wr t n (KG t n d) (fmt n (Wt d n t.uB))).length=z;rw[(zsm hns (jQ _ _) (zW _ _) (fun e=>by unfold KG at e;simp only[mD,decide_eq_true_eq]at e;exact⟨e.2,by rw[hv];exact e.1.2⟩)).2,h.sz4 hns]
end Go.Proofs.C06
end
section
set_option maxRecDepth 100000
namespace Go.Proofs.C06
open Go Go.RowKit Go.Vc Go.Am Go.Dg
theorem zcA{d:Decimal}(hd:VD d){n:Nat}{sc:Int}(h3: -18<=sc)(h4:sc<=18)(hf:qV d n sc)(sg:Bool):grD (d.uH&&sg) (quo (val d.uA) d.uB.toNat sc) sc=Decimal.mk (d.uH&&sg) d.uA d.uB/\
  (d.uH=true->quo (val d.uA) d.uB.toNat sc≠0):=by
 have hform:=hd.form;obtain⟨a1,a2,a3,a4,a5,_⟩:=hd;obtain⟨q,q1,q2⟩:=(J2 (v:=val d.uA) (S:=d.uB.toNat) (n:=n) (s:=sc) (by omega) (by omega) (by omega)).1 hf;have hq:=ze8 (v:=val d.uA) (S:=d.uB.toNat) (q:=q) (s:=sc) (by omega) (by omega) (by omega) q2;have hneg:d.uH=true->val d.uA≠0:=by intro hng h0;rw[h0,jy]at hform;rw[<-hform]at hng;cases hng
 rw[hq];constructor
 ·unfold grD;have e:canon (d.uH&&sg) (q*10^(-sc).toNat) sc.toNat=canon (d.uH&&sg) (val d.uA) d.uB.toNat:=by
   apply ztP;apply uAt (pow_pos (62-(-sc).toNat));have r1:q*10^(-sc).toNat*10^d.uB.toNat*10^(62-(-sc).toNat)=q*10^(62+d.uB.toNat):=by rw[nL,nL,<-uAu,<-uAu];congr 2;omega
   have r2:val d.uA*10^sc.toNat*10^(62-(-sc).toNat)=val d.uA*10^(62+sc).toNat:=by rw[nL,<-uAu];congr 2;omega
   rw[r1,r2,q2]
  rw[e];have e1:(canon (d.uH&&sg) (val d.uA) d.uB.toNat)=((d.uH&&sg),(canon d.uH (val d.uA) d.uB.toNat).2):=by
   by_cases h0:val d.uA=0
   ·have hn:d.uH=false:=by
     cases hng:d.uH with
     |false=>rfl
     |true=>exact absurd h0 (hneg hng)
    rw[h0,hn,jy,jy];rfl
   ·unfold canon;rw[if_neg h0,if_neg h0]
  rw[e1];have h2:=congrArg Decimal.uA hform;have h3:=congrArg Decimal.uB hform;have h2:(canon d.uH (val d.uA) d.uB.toNat).2.1=d.uA:=h2;have h3:(((canon d.uH (val d.uA) d.uB.toNat).2.2:Nat):Int)=d.uB:=h3;unfold yS;rw[h2,h3]
 ·intro hng hq0;rw[hq0,uAR]at q2;have p:=pow_pos (62+sc).toNat;rcases Nat.mul_eq_zero.1 q2 with h|h
  ·exact hneg hng h
  ·omega
theorem zlq{t:Shape}{z:Nat}(_h:MS t z)(hc:(∃n,NS t n)\/∃n sc sg,ES t n sc sg){d:Decimal}(hd:VD d)(hf:qV d t.uA.toNat t.uB):
  ZZ t (yk t d).1=(Decimal.mk (d.uH&&t.uE) d.uA d.uB,0):=by
 rcases hc with⟨n,hn⟩|⟨n,sc,sg,hn⟩
 ·have h1:=hn.sc1;have h2:=hn.sc2;rw[hn.nat]at hf;obtain⟨b1,b2⟩:=zcA hd h1 h2 hf t.uE;have hq:Wt d n t.uB=quo (val d.uA) d.uB.toNat t.uB:=uAn hf.2;have hng2:KG t n d=(d.uH&&t.uE):=by
   unfold KG;rw[hq];cases hdn:d.uH with
   |false=>rfl
   |true=>rw[decide_eq_true (b2 hdn),uAg]
  have hst:yk t d=(wr t n (KG t n d) (fmt n (Wt d n t.uB)),0):=by unfold yk;rw[if_neg (by rw[hn.cat];decide),hn.nat]
  rw[hst];unfold ZZ;rw[if_pos hn.cat,hn.nat];show KW t n (wr t n (KG t n d) (fmt n (Wt d n t.uB)))=_;rw[zs4 hn,hng2,hq,b1]
 ·have h18:=hn.n18;have hscn:=hn.scn;have hsc:=hn.scl;have hf:qV d n (sc:Int):=by rw[hn.nat.1,hsc]at hf;exact hf
  obtain⟨b1,b2⟩:=zcA hd (sc:=(sc:Int)) (by omega) (by omega) hf t.uE;have hq:Z7 d n sc=quo (val d.uA) d.uB.toNat (sc:Int):=uAn hf.2;have hlt:Z7 d n sc<10^n:=uBa _ (pow_pos n);have hgr:∀(g:Bool)(q:Nat),grD g q (sc:Int)=gD g q sc:=by intro g q;unfold grD gD;rw[show(-(sc:Int)).toNat=0 by omega,nH,mQ,mP]
  have hst:yk t d=(Ka t (fmt n (Z7 d n sc)) (d.uH&&decide (Z7 d n sc≠0)),0):=by unfold yk;rw[if_pos hn.cat,hn.nat.1,hn.nat.2,zep hn d.uH hlt];rfl
  rw[hst];unfold ZZ;rw[if_neg (by rw[hn.cat];decide),if_pos hn.cat,hn.nat.1,hn.nat.2];show WX t n sc (Ka t (fmt n (Z7 d n sc)) (d.uH&&decide (Z7 d n sc≠0)))=_;rw[zrt hn hlt d.uH];rw[hgr,<-hq]at b1;rw[<-b1];have hvq:=Z1 n _ hlt;cases hdn:d.uH with
  |false=>rw[Bool.false_and,if_pos rfl,Bool.false_and]
  |true=>
   have h0:=b2 hdn;rw[<-hq]at h0;rw[decide_eq_true h0,uAg,uAp,hn.sgn];cases sg with
   |true=>have:=zuq hn (jQ n (Z7 d n sc)) (zW n (Z7 d n sc)) (by rw[hvq];exact h0);rw[if_neg (fun e=>this e.symm)]
   |false=>have:=zr4 hn (jQ n (Z7 d n sc)) (zW n (Z7 d n sc)) (by rw[hvq];exact h0);rw[if_pos this.symm]
def jk(x:Link):AV:=.agg [.bool x.wJ,.int .u8 x.vK,.int .u8 x.vL,.int .u8 x.vM,.bool x.wK,.rob false x.wL,.int .u8 x.vX,.int .u8 x.vY,.int .u8 x.vZ,.int .u8 x.wA,.int .u8 x.wC,.int .u8 x.wD,.int .u8 x.wE,.roi false .u16 x.wF,.bool x.wI]
structure LX(x:Link):Prop where
 d0:0<=x.vK
 d1:x.vK<=255
 p0:0<=x.vL
 p1:x.vL<=255
 f0:0<=x.vM
 f1:x.vM<=255
 s0:0<=x.vX
 o0:0<=x.vY
 w0:0<=x.vZ
 m0:0<=x.wA
 n0:0<=x.wC
 t0:0<=x.wD
 a0:0<=x.wE
 ins:∀v∈x.wF,0<=v/\v<=65535
theorem zvd{s:Shape}(h:chkV s=0)(h5:s.uD=5):s.uI=0:=by
 have:=zms h;apply Classical.byContradiction;intro hu;unfold chkV at h;rw[if_neg (fun h=>h this),if_neg (by omega)]at h;unfold zfj at h;split at h
 ·rename_i hh;exact hh h
 ·split at h
  ·cases h
  ·unfold Ki at h;split at h
   ·cases h
   ·rw[if_pos ⟨hu,by omega⟩]at h;cases h
theorem zqR{N:Nat}(hN:3000<N){x:Link}(hx:LX x):∃s z,zfA N x=some s/\MS s z/\((∃n,NS s n)\/∃n sc sg,ES s n sc sg):=by
 unfold zfA;cases hE:x.wJ with
 |false=>have hf:=zh3 (N:=N) hN (x:=F.mk x.vK x.vL x.vM x.wK x.wL) (dg:=x.vK.toNat) (fm:=x.vM.toNat) (pt:=x.vL.toNat) (by have:=hx.d0;show x.vK=_;omega) (by have:=hx.f0;show x.vM=_;omega) (by have:=hx.f1;omega) (by have:=hx.p0;show x.vL=_;omega) (by have:=hx.p1;omega) (by have:=hx.d1;omega);obtain⟨g1,g2,g3⟩:=zr5 (n:=x.vK.toNat%18+1) (pt:=x.vL.toNat) (fm:=x.vM.toNat) (by omega) (by omega);obtain⟨z,hz⟩:=zsF g2 g3 (by rw[g1.cat];decide) (by rcases g1.use with e|e|e<;>rw[e]<;>decide);rw[uA4,cond_true,hf,zc];exact⟨_,z,rfl,hz,.inl ⟨_,g1⟩⟩
 |true=>
  have go:∀sg:Int,0<=sg->∃s z,(bnd (zaw N (E.mk sg x.vY x.vZ x.wA x.wC x.wD x.wE x.wF x.wI)) fun rr1=>some rr1)=some s/\MS s z/\((∃n,NS s n)\/∃n sc sg,ES s n sc sg):=by intro sg0 hs0;obtain⟨sg,w,mn,ni,pt,pa,hp⟩:=zxM (x:=E.mk sg0 x.vY x.vZ x.wA x.wC x.wD x.wE x.wF x.wI) hs0 hx.o0 hx.w0 hx.m0 hx.n0 hx.t0 hx.a0;obtain⟨s,n',sc,g,e1,e2,e3,e4,e5⟩:=zre hN hp hx.ins;obtain⟨z,hz⟩:=zsF e2 (by omega) (by rw[e3.cat];decide) (by rw[zvd e2 e3.cat];decide);rw[e1,zc];exact⟨s,z,rfl,hz,.inr ⟨_,_,_,e3⟩⟩
  have e8:(zf x.vX&&decide (0<8))=true:=by have:=hx.s0;simp only[zf,mD,decide_eq_true_eq];omega
  rw[uAb,cond_false,e8,za,zb];split
  ·exact go 4 (by decide)
  ·exact go _ hx.s0
theorem zqQ{N:Nat}(hN:3000<N){s:Shape}{z:Nat}(h:MS s z)(hc:(∃n,NS s n)\/∃n sc sg,ES s n sc sg){b:uBp}(hb:b.length=z):zju N (fld s b)=some (ZZ s b):=by
 unfold zju ZZ;rw[zb];rcases hc with⟨n,hn⟩|⟨n,sc,sg,hn⟩
 ·have h4:=hn.cat;have hz:=h.sz4 hn;have h300:=ziN hn;rw[if_neg (show¬(fld s b).vD=5 from fun e=>by have e:s.uD=5:=e;omega),ziH hN hn h.chk h.pic (by omega),zc,if_pos h4,hn.nat]
 ·have h5:=hn.cat;have hEb:=zmQ hN hn h.chk b;have hEb:zin N (fld s b)=some (WX s n sc b):=hEb;rw[if_pos (show(fld s b).vD=5 from h5),hEb,zc,if_neg (by omega),if_pos h5,hn.nat.1,hn.nat.2]
theorem YQ{N:Nat}(hN:3000<N)(ls:List Link)(hls:∀x∈ls,LX x)(hlen:ls.length<=6):∀(k i:Nat)(s:Shape)(z:Nat)(b:uBp)(d:Decimal),i<=ls.length->ls.length-i<k->MS s z->((∃n,NS s n)\/∃n sc sg,ES s n sc sg)->b.length=z->VD d->ZZ s b=(d,0)->
  j6 N k (ls.map jk) (i:Int) (fld s b) d=some true
 |0,i,_,_,_,_,_,hk,_,_,_,_,_=>by omega
 |k+1,i,s,z,b,d,hi,hk,hs,hc,hb,hd,hv=>by
  show YR N (j6 N k) (ls.map jk) (i:Int) (fld s b) d=_;unfold YR;rw[zb,nI];by_cases h:i<ls.length
  ·obtain⟨x,hx⟩:∃x,ls[i]? =some x:=⟨ls[i],mC h⟩
   have hxm:x∈ls:=nY hx;have hat:atV (ls.map jk) (i:Int)=jk x:=by unfold atV;rw[mP,mE,nV,hx];rfl
   obtain⟨t,z',ht1,ht,htc⟩:=zqR (N:=N) hN (hls x hxm);have hk0:zfA N (Link.mk (zaF (zo (jk x) 0)) (Am.j5 (zo (jk x) 1)) (Am.j5 (zo (jk x) 2)) (Am.j5 (zo (jk x) 3)) (zaF (zo (jk x) 4)) (bytesOf (zo (jk x) 5)) (Am.j5 (zo (jk x) 6)) (Am.j5 (zo (jk x) 7)) (Am.j5 (zo (jk x) 8)) (Am.j5 (zo (jk x) 9)) (Am.j5 (zo (jk x) 10)) (Am.j5 (zo (jk x) 11)) (Am.j5 (zo (jk x) 12)) (znV (zo (jk x) 13)) (zaF (zo (jk x) 14)))=some t:=ht1;have hchk:(zn (i:Int) ls.length&&(znJ (jk x) 15&&(zcz (zo (jk x) 0)&&(ju .u8 (zo (jk x) 1)&&(ju .u8 (zo (jk x) 2)&&(ju .u8 (zo (jk x) 3)&&(zcz (zo (jk x) 4)&&(zfD (zo (jk x) 5)&&(ju .u8 (zo (jk x) 6)&&(ju .u8 (zo (jk x) 7)&&(ju .u8 (zo (jk x) 8)&&(ju .u8 (zo (jk x) 9)&&(ju .u8 (zo (jk x) 10)&&(ju .u8 (zo (jk x) 11)&&(ju .u8 (zo (jk x) 12)&&(zfC .u16 (zo (jk x) 13)&&(zcz (zo (jk x) 14)&&true)))))))))))))))))=true:=by rw[zO h];rfl
   rw[if_pos (by omega),hat,hchk,za,hk0,zc];have hdig:∃n:Nat,t.uA=(n:Int)/\t.uA.toNat=n/\1<=n/\n<=18/\ -18<=t.uB/\t.uB<=18:=by
    rcases htc with⟨n,hn⟩|⟨n,sc,sg,hn⟩
    ·exact⟨n,hn.dig,hn.nat,hn.n1,hn.n18,hn.sc1,hn.sc2⟩
    ·have h1:=hn.scl;have h2:=hn.scn;have h3:=hn.n18;exact⟨n,hn.dig,hn.nat.1,hn.n1,h3,by omega,by omega⟩
   obtain⟨n,w1,w2,w3,w4,w5,w6⟩:=hdig;rw[w1,zk7 hN hd w3 (by omega) (by omega) (by omega),zc];dsimp only;rw[decide_eq_true rfl,uAb,cond_false,zg];by_cases hf:qV d n t.uB
   ·have hcat:s.uD=4\/s.uD=5:=by
     rcases hc with⟨n,hn⟩|⟨n,sc,sg,hn⟩
     ·exact .inl hn.cat
     ·exact .inr hn.cat
    have hcat':t.uD=4\/t.uD=5:=by
     rcases htc with⟨n,hn⟩|⟨n,sc,sg,hn⟩
     ·exact .inl hn.cat
     ·exact .inr hn.cat
    have hal:Y0 s t=true:=by unfold Y0;rw[if_neg (by rintro⟨_,_,e|e⟩<;>omega)];rcases hcat with e|e<;>rcases hcat' with e'|e'<;>rw[e,e']<;>decide
    have hmv:mvV s t b=yk t d:=by unfold mvV;rw[if_neg (by rw[hal];decide),if_neg (by omega),if_pos hcat',hv,if_neg (fun e=>e rfl)]
    obtain⟨g1,g2⟩:=zm7 ht hcat' hd;have hnum:=zlq ht htc hd (by rw[w2];exact hf);rw[if_pos hf,zsO hN hs ht hb,hmv,zc];have hdn:VD (Decimal.mk (d.uH&&t.uE) d.uA d.uB):=by obtain⟨b1,_⟩:=zcA hd w5 w6 hf t.uE;rw[<-b1];exact zs1 hf.2 w4 w5 w6
    have step:ZJ N (j6 N k) (ls.map jk) (i:Int) (yk t d).2 (fld t (yk t d).1) (Decimal.mk (d.uH&&t.uE) d.uA d.uB)=some true:=by unfold ZJ;rw[zqQ hN ht htc g2,zc,g1,hnum];dsimp only;rw[decide_eq_true rfl,uAb,cond_false,cond_false,decide_eq_true rfl,decide_eq_true rfl,decide_eq_true rfl];show(chk (zd .i64 ((i:Int)+1))<|j6 N k (ls.map jk) ((i:Int)+1) (fld t (yk t d).1) (Decimal.mk (d.uH&&t.uE) d.uA d.uB))=_;rw[zh (by omega) (by omega),za];exact YQ hN ls hls hlen k (i+1) t z' _ _ (by omega) (by omega) ht htc g2 hdn hnum
    cases hsg:t.uE with
    |false=>
     rw[hsg,Bool.and_false]at step;rw[uA4,cond_true];have:Field.mk t.uD t.uI t.uC t.uA t.uB false t.uK t.uL t.uN t.uJ t.uG (yk t d).1=fld t (yk t d).1:=by unfold fld;rw[hsg]
     rw[<-w1,this];exact step
    |true=>
     rw[hsg,uAg]at step;rw[uAb,cond_false];have:Field.mk t.uD t.uI t.uC t.uA t.uB true t.uK t.uL t.uN t.uJ t.uG (yk t d).1=fld t (yk t d).1:=by unfold fld;rw[hsg]
     rw[<-w1,this];exact step
   ·rw[if_neg hf,zh (by omega) (by omega),za];exact YQ hN ls hls hlen k (i+1) s z b d (by omega) (by omega) hs hc hb hd hv
  ·rw[if_neg (by omega)]
theorem zgW(x:F)(ls:List Link)(h1:0<=x.uA)(h2:x.uA<=255)(h3:0<=x.uM)(h4:x.uM<=255)(h5:0<=x.uO)(h6:x.uO<=255)(hls:∀x∈ls,LX x):∃N,qS N x (ls.map jk)=some true:=by
 refine⟨4000,?_⟩;have hN:3000<4000:=by decide
 generalize (4000:Nat)=N at hN⊢;obtain⟨s,n,ng,l,e1,hs,hc,hp,hd,hl,hng,e2,e3⟩:=zwO (N:=N) hN h1 h2 h3 h4 h5 h6;obtain⟨z,hz⟩:=zsF hc hp (by rw[hs.cat];decide) (by rcases hs.use with e|e|e<;>rw[e]<;>decide);unfold qS;rw[zb,nI];split
 ·rfl
 ·have hlen:=(zsm hs hd hl hng).2;have hn0:ZZ s (wr s n ng l)=(zja s ng l,0):=by unfold ZZ;rw[if_pos hs.cat,hs.nat,zpA hs hd hl hng]
  rw[e2,zc,e3,zc];exact YQ hN ls hls (by omega) N 0 s z _ _ (by omega) (by omega) hz (.inl ⟨n,hs⟩) (by rw[hlen,hz.sz4 hs]) (zi9 hs hd hl).1 hn0
end Go.Proofs.C06
end
