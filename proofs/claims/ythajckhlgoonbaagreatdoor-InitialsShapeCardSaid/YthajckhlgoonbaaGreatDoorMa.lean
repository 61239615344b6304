/-
  A part of the proof of the laws.
-/
import Derived.Test.YthajckhlgoonbaaGreatDoorS7
import Derived.Test.YthajckhlgoonbaaGreatDoorUa
import Derived.Test.YthajckhlgoonbaaGreatDoorEc
import Derived.Test.YthajckhlgoonbaaGreatDoorUd
import Derived.Test.YthajckhlgoonbaaGreatDoorEd
import Derived.Test.YthajckhlgoonbaaGreatDoorEg
import Derived.Test.YthajckhlgoonbaaGreatDoorCi
section
set_option maxRecDepth 100000
namespace Go.Proofs.C06
open Go Go.RowKit Go.Vc Go.Am Go.Dg
def fit(b:uBH)(n:Nat)(left:Bool):uBH:=if left=true then List.replicate (n-b.length) 32++b.drop (b.length-n)else b.take n++List.replicate (n-b.length) 32
theorem zjq(b:uBH)(n:Nat)(left:Bool):(fit b n left).length=n:=by
 unfold fit;split
 ·rw[nH,nE,nD];omega
 ·rw[nH,nE,nA];omega
theorem zpi(c:UInt8){m:Nat}(hm:m<=100000000):jA [c] (m:Int)=some (List.replicate m c):=by
 have e:∀k:Nat,Lib.repeatL [c] k=List.replicate k c:=fun k=>by
  induction k with
  |zero=>rfl
  |succ k ih=>rw[Lib.repeatL,ih,uAa];rfl
 unfold jA;simp only[nK,nC,uBw];rw[decide_eq_true (show(0:Int)<=(m:Int)by omega),decide_eq_true (show(m:Int)<=9223372036854775807 by omega),decide_eq_true (by omega),e];rfl
theorem zxL{n:Nat}(h:n<=100000000):(zdu 1 (n:Int)&&decide ((n:Int)=(n:Int)))=true:=by show((Nat.ble (1*n) 281474976710656&&Nat.ble n 9223372036854775807)&&decide ((n:Int)=(n:Int)))=true;rw[decide_eq_true rfl,uAL,mY,uBj,uBj];omega
theorem zp9{l s:uBH}(h:s.length=l.length):yZ l s 0 l.length=s:=by unfold yZ;rw[uBn,uAu,<-h,uBc,Nat.min_self,uAU,h,uBq,nV]
theorem ztx(N:Nat){n:Nat}(h:n<=1048576):zpx N (n:Int)=some 0:=by unfold zpx;rw[zb,if_neg (by omega),zb,if_neg (by omega)]
theorem zpy(N:Nat){b:uBH}(hb:b.length<=100000000){n:Nat}(hn:n<=1048576)(left:Bool):zq3 N b (n:Int) left=some (fit b n left,0):=by
 have hrep:yZ (List.replicate n (0:UInt8)) (List.replicate n 32) 0 (List.replicate n (0:UInt8)).length=List.replicate n 32:=zp9 (by simp);unfold zq3;rw[ztx N hn,zc,decide_eq_true rfl,uAd,cond_false,zxL (by omega),za,zpi 32 (by omega),zc,nK,hrep];cases left with
 |false=>rw[cond_false];unfold yZ fit;rw[if_neg (by decide),uBn,uAu,nE,uAU,List.drop_replicate];congr 3;rw[show n-min b.length n=n-b.length by omega]
 |true=>
  have e1:jD 0 ((n:Int)-(b.length:Int))=((n-b.length:Nat):Int):=by unfold jD;split<;>omega
  have e2:jD 0 ((b.length:Int)-(n:Int))=((b.length-n:Nat):Int):=by unfold jD;split<;>omega
  rw[cond_true,zk (by omega) (by omega),za,e1,nE,zx.2 ⟨by omega,by omega,uBg _⟩,za,zk (by omega) (by omega),za,e2,zx.2 ⟨by omega,by omega,uBg _⟩,za];have e3:Vc.sub b ((b.length-n:Nat):Int) (b.length:Int)=b.drop (b.length-n):=by unfold Vc.sub;rw[nK,nK,uBc]
  have e4:((n:Int)-((n-b.length:Nat):Int)).toNat=n-(n-b.length):=by omega
  rw[e3,e4,nK];unfold yZ fit;rw[if_pos rfl,List.take_replicate,uBf (by omega),nD,List.drop_replicate,show n-(n-b.length+min (b.length-(b.length-n)) (n-(n-b.length)))=0 by omega,uAh (by rw[nD];omega)];congr 2;exact nV _
theorem zpz{N:Nat}(s:uBH)(hs:s.length<=1000000):∀(k i:Nat),i<=s.length->s.length-i<k->Zb N k s (s.length:Int) (i:Int)=some (decide (Digs (s.drop i)))
 |0,i,_,hk=>by omega
 |k+1,i,hi,hk=>by
  show Yb N (Zb N k) s _ _=_;unfold Yb;by_cases h:i<s.length
  ·have hd:s.drop i=s.getD i 0::s.drop (i+1):=by rw[mZ,mW h];exact uAG h
   rw[decide_eq_true (by omega),cond_true,zq.2 ⟨by omega,by omega⟩,za];have hb:byteAt s (i:Int)=((s.getD i 0).toNat:Int):=rfl;rw[hb];have hdg:zjM N ((s.getD i 0).toNat:Int)=some (decide (48<=(s.getD i 0).toNat/\(s.getD i 0).toNat<=57)):=by
    unfold zjM;rw[zb];by_cases h1:48<=(s.getD i 0).toNat
    ·rw[if_pos (by omega)];congr 1;exact decide_eq_decide.2 ⟨fun h=>⟨h1,by omega⟩,fun h=>by omega⟩
    ·rw[if_neg (by omega),decide_eq_false (fun h=>h1 h.1)]
   rw[hdg,zc,hd];by_cases h1:48<=(s.getD i 0).toNat/\(s.getD i 0).toNat<=57
   ·rw[decide_eq_true h1,uAd,cond_false,zk (by omega) (by omega),za,show(i:Int)+1=((i+1:Nat):Int)by omega,zpz s hs k (i+1) (by omega) (by omega)];congr 1;exact decide_eq_decide.2 ⟨fun h c hc=>by rcases nS.1 hc with rfl|hc;exact h1;exact h c hc,fun h c hc=>h c (uAb _ hc)⟩
   ·rw[decide_eq_false h1,uA7,cond_true,decide_eq_false (fun h=>h1 (h _ uAs))]
  ·have:s.length=i:=by omega
   subst this;rw[decide_eq_false (by omega),cond_false,uBq,decide_eq_true (show Digs []from Digs.nil)]
theorem zbA{N:Nat}{s:uBH}(hs:s.length<N)(hs2:s.length<=1000000):QL N s=some (decide (s≠[]/\Digs s)):=by
 unfold QL;rw[zh];by_cases h:s=[]
 ·rw[if_pos h,decide_eq_false (fun e=>e.1 h)]
 ·rw[if_neg h];unfold zcz;have:=zpz (N:=N) s hs2 N 0 (uAC _) (by omega);rw[show((0:Nat):Int)=0 from rfl]at this;rw[this,zc,uAk];congr 1;exact decide_eq_decide.2 ⟨fun e=>⟨h,e⟩,fun e=>e.2⟩
end Go.Proofs.C06
end
section
set_option maxRecDepth 100000
namespace Go.Proofs.C06
open Go Go.RowKit Go.Vc Go.Am Go.Dg
def cutK(d:Decimal)(s:Int):Nat:=((d.uD.toNat:Int)-s).toNat
def XG(d:Decimal)(s:Int):Decimal:=gD d.uR (val d.uA/10^cutK d s*10^cutK d s) d.uD.toNat
theorem zxe{N:Nat}(hN:3000<N){d:Decimal}(hd:VD d){s:Int}(h1: -62<=s)(h2:s<=62):∃t,zl9 N d s=some (XG d s,t,0):=by
 obtain⟨x,e,e1,e2,e3⟩:=zjI hN hd (s:=s) (by omega) (by omega);have hf:=hd.form;obtain⟨g1,g2,g3,g4,g5,_⟩:=hd;refine⟨decide (val d.uA%10^(d.uD-s).toNat=0),?_⟩;rw[e1];by_cases h:d.uD<=s
 ·obtain⟨rfl,rfl⟩:=e2 h;unfold XG gD;rw[show cutK x s=0 by unfold cutK;omega,uAi,Nat.div_one,nM,hf]
 ·obtain⟨m,hm,hx⟩:=e3 (by omega);have ek:(d.uD-s).toNat=cutK d s:=by unfold cutK;omega
  rw[ek]at hm;have hv:val (d.uA.take (d.uA.length-m)++List.replicate m 48)=val d.uA/10^cutK d s*10^cutK d s:=by
   rw[yJ,(jB g2 (by omega)).1];rcases uA9 d.uA.length (cutK d s)with hlt|hge
   ·have hm':m=d.uA.length:=by omega
    rw[hm',uBr (ym g2),uBr (zhu (nB _) g2 (by omega)),uA8,uA8]
   ·have hm':m=cutK d s:=by omega
    rw[hm']
  have e0:(-d.uD).toNat=0:=by omega
  have hn:nrm d.uR (d.uA.take (d.uA.length-m)++List.replicate m 48) d.uD=(XG d s,0):=by
   rw[W4,hv,e0,uAi,nM]
   ·rfl
   ·rw[hv,e0,uAi,nM];refine yk (by decide) (zhu (Nat.div_mul_le_self _ _) g2 g3)
   ·exact nY (zT _ _ _) (by omega)
  rw[hn]at hx;cases hx;rfl
theorem zo6(v S:Nat){s:Int}(hS:S<=62)(h1: -62<=s):v/10^((S:Int)-s).toNat*10^((S:Int)-s).toNat*10^(62+s).toNat=quo v S s*10^(62+S):=by
 unfold quo;by_cases h:s<=S
 ·rw[show(s-(S:Int)).toNat=0 by omega,uAi,nM,uAr,<-uA2,show((S:Int)-s).toNat+(62+s).toNat=62+S by omega]
 ·rw[show((S:Int)-s).toNat=0 by omega,uAi,Nat.div_one,nM,Nat.div_one,uAr,<-uA2,show(s-(S:Int)).toNat+(62+S)=(62+s).toNat by omega]
theorem ztm{d:Decimal}(hd:VD d){s:Int}(h1: -62<=s)(h2:s<=62):VD (XG d s)/\exact (val (XG d s).uA) (XG d s).uD.toNat s/\quo (val (XG d s).uA) (XG d s).uD.toNat s=quo (val d.uA) d.uD.toNat s:=by
 obtain⟨g1,g2,g3,g4,g5,_⟩:=hd;have hS62:d.uD.toNat<=62:=by omega
 have hvd:VD (XG d s):=VD.of (yk (by decide) (zhu (Nat.div_mul_le_self _ _) g2 g3)) (nY (zT _ _ _) (by omega));have hg:=zjm d.uR (val d.uA/10^cutK d s*10^cutK d s) hS62;have hS':(XG d s).uD.toNat<=62:=by have:=hvd.2.2.2.2.1;omega
 have key:val (XG d s).uA*10^(62+s).toNat=quo (val d.uA) d.uD.toNat s*10^(62+(XG d s).uD.toNat):=by
  refine uAY (pow_pos (62+(d.uD.toNat:Int)).toNat) ?_;have hg':val (XG d s).uA*10^(62+(d.uD.toNat:Int)).toNat=val d.uA/10^cutK d s*10^cutK d s*10^(62+(XG d s).uD.toNat):=hg;have e1:(62+(d.uD.toNat:Int)).toNat=62+d.uD.toNat:=by omega
  rw[Nat.mul_right_comm,hg',Nat.mul_right_comm,Nat.mul_right_comm (quo _ _ _),e1];congr 1;exact zo6 (val d.uA) d.uD.toNat hS62 h1
 exact⟨hvd,((Qp (n:=quo (val d.uA) d.uD.toNat s) hS' (by omega) (by omega)).2 ⟨_,KI _,key⟩).1,ziN hS' (by omega) (by omega) key⟩
def grD(ng:Bool)(q:Nat)(sc:Int):Decimal:=Yx (canon ng (q*10^(-sc).toNat) sc.toNat)
theorem zwJ{N:Nat}(hN:3000<N){d:Decimal}(hd:VD d){n:Nat}{sc:Int}(h1:1<=n)(h18:n<=18)(hs1: -18<=sc)(hs:sc<=18)(he:exact (val d.uA) d.uD.toNat sc):
  zkV N d (n:Int) sc=some (grD d.uR (quo (val d.uA) d.uD.toNat sc%10^n) sc,0):=by
 obtain⟨t,e1,e2,e3,e4,e5⟩:=(VK hN hd (n:=n) (s:=sc) (by omega) (by omega) (by omega)).1 he;have hl:d.uA.length<=1000:=by have:=hd.2.2.1;omega
 unfold zkV;rw[zb5 hN hl h1 (by omega) (by omega) (by omega),if_pos hd,zc,zh,if_pos rfl,e1,zc];dsimp only;have hin:zm ((t.length:Int)-(n:Int)) (t.length:Int) t.length=true:=by unfold zm;simp<;>omega
 have hv:val (t.drop (t.length-n))=quo (val d.uA) d.uD.toNat sc%10^n:=by rw[(jB e2 e4).2,e3]
 have hlt:quo (val d.uA) d.uD.toNat sc%10^n<10^n:=uBs _ (pow_pos n);have hne:t.drop (t.length-n)≠[]:=by intro h;have:=congrArg List.length h;rw[nD,uBw]at this;omega
 have h10:(10:Nat)^n<=10^18:=uAp (by decide) h18;have hvd:=zlI (ng:=d.uR) (q:=quo (val d.uA) d.uD.toNat sc%10^n) (sc:=sc) (by omega) hs1 hs;obtain⟨_,_,v3,_,v5,_⟩:=hvd;have v3:(canon d.uR (quo (val d.uA) d.uD.toNat sc%10^n*10^(-sc).toNat) sc.toNat).2.1.length<=62:=v3;rw[uAd,cond_false,zk (by omega) (by omega),za,hin,za,Wf _ e4,zbv hN _ (e2.drop _) hne (by rw[nD];omega) (by omega) (by omega),zc,W4,hv]
 ·rfl
 ·rw[hv];exact v3
 ·exact nY (zT _ _ _) (by omega)
def zfl(d:Decimal)(n:Nat)(sc:Int):Nat:=quo (val d.uA) d.uD.toNat sc%10^n
def zpg(s:Shape)(n:Nat)(d:Decimal):Bool:=(d.uR&&decide (zfl d n s.uD≠0))&&s.uM
theorem ztn(d:Decimal)(s:Int):(XG d s).uR=(d.uR&&decide (val d.uA/10^cutK d s*10^cutK d s≠0)):=zjl _ _ _
theorem zvb{d:Decimal}(hS:d.uD.toNat<=62){n:Nat}{sc:Int}(h1: -62<=sc)(h:zfl d n sc≠0):(XG d sc).uR=d.uR:=by
 rw[ztn];have:val d.uA/10^cutK d sc*10^cutK d sc≠0:=by
  intro e;have hk:=zo6 (val d.uA) d.uD.toNat hS h1;have e':val d.uA/10^((d.uD.toNat:Int)-sc).toNat*10^((d.uD.toNat:Int)-sc).toNat=0:=e;rw[e',uA8]at hk;have:quo (val d.uA) d.uD.toNat sc=0:=by
   rcases Nat.mul_eq_zero.1 hk.symm with h|h
   ·exact h
   ·exact absurd h (Nat.ne_of_gt (pow_pos _))
  apply h;unfold zfl;rw[this,Nat.zero_mod]
 rw[decide_eq_true this,uAL]
theorem zvi(ng:Bool)(q:Nat)(sc:Int):(grD ng q sc).uR=(ng&&decide (q≠0)):=by show(canon ng (q*10^(-sc).toNat) sc.toNat).1=_;rw[zf9];congr 1;exact decide_eq_decide.2 ⟨fun h e=>h (by rw[e,uA8]),fun h=>Nat.mul_ne_zero h (Nat.ne_of_gt (pow_pos _))⟩
theorem zqy{ng ng':Bool}{q:Nat}(sc:Int)(h:q≠0->ng=ng'):grD ng q sc=grD ng' q sc:=by unfold grD;rw[zq1 (fun e=>h (fun e0=>e (by rw[e0,uA8])))]
theorem zwU{N:Nat}(hN:3000<N){d:Decimal}(hd:VD d){n:Nat}{sc:Int}(h1:1<=n)(h18:n<=18)(hs1: -18<=sc)(hs:sc<=18):
  zkV N (XG d sc) (n:Int) sc=some (grD d.uR (zfl d n sc) sc,0):=by
 obtain⟨c1,c2,c3⟩:=ztm hd (s:=sc) (by omega) (by omega);rw[zwJ hN c1 h1 h18 hs1 hs c2,c3];have e:grD (XG d sc).uR (zfl d n sc) sc=grD d.uR (zfl d n sc) sc:=zqy sc fun h=>zvb (by have:=hd.2.2.2.2.1;omega) (by omega) h
 show some (grD (XG d sc).uR (zfl d n sc) sc,(0:Int))=_;rw[e]
theorem zja(d:Decimal)(n:Nat)(sc:Int):zfl d n sc<10^n:=uBs _ (pow_pos n)
theorem zw1{ng:Bool}{q n:Nat}{sc:Int}(hq:q<10^n)(hn:n<=18)(h1: -18<=sc)(h2:sc<=18):VD (grD ng q sc):=by have h10:(10:Nat)^n<=10^18:=uAp (by decide) hn;exact zlI (by omega) h1 h2
theorem zvh(ng:Bool){q n:Nat}{sc:Int}(hq:q<10^n)(h1: -18<=sc)(h2:sc<=18):Jb (grD ng q sc) n sc/\quo (val (grD ng q sc).uA) (grD ng q sc).uD.toNat sc=q:=by refine⟨(zqx ng q n h1 h2).2 hq,?_⟩;have hg:=zga ng q (sc:=sc) (by omega);have hcs:=zT ng (q*10^(-sc).toNat) sc.toNat;show quo (val (canon ng (q*10^(-sc).toNat) sc.toNat).2.1) (((canon ng (q*10^(-sc).toNat) sc.toNat).2.2:Int)).toNat sc=q;rw[nK];exact ziN (by omega) (by omega) (by omega) hg
theorem zr7(s:Shape){n q:Nat}(ng:Bool)(hq:q<10^n)(h1: -18<=s.uD)(h2:s.uD<=18):zno s n (grD ng q s.uD)=(wr s n ((ng&&decide (q≠0))&&s.uM) (fmt n q),0):=by obtain⟨f1,f2⟩:=zvh ng hq h1 h2;unfold zno;rw[if_pos f1,f2,zvi]
theorem zu9{N:Nat}(hN:3000<N){s:Shape}{n:Nat}(h:NS s n)(hc:chkV s=0)(hp:s.uC.length<=400){d:Decimal}(hd:VD d):
  zva N d s=some (wr s n (zpg s n d) (fmt n (zfl d n s.uD)),0):=by
 have h1:=h.sc1;have h2:=h.sc2;obtain⟨t,e1⟩:=zxe hN hd (s:=s.uD) (by omega) (by omega);unfold zva;rw[e1,zc];dsimp only;rw[decide_eq_true rfl,uAd,cond_false,h.dig,zwU hN hd h.n1 h.n18 h1 h2,zc];dsimp only;rw[decide_eq_true rfl,uAd,cond_false,zoS hN h hc hp (zw1 (zja d n s.uD) h.n18 h1 h2),zr7 s d.uR (zja d n s.uD) h1 h2,zc];rfl
end Go.Proofs.C06
end
section
set_option maxRecDepth 100000
namespace Go.Proofs.C06
open Go Go.RowKit Go.Vc Go.Am Go.Dg
structure MS(s:Shape)(z:Nat):Prop where
 chk:chkV s=0
 pic:s.uC.length<=400
 siz:s.uK=(z:Int)
 c0:0<=s.uB
 c5:s.uB<=5
 u0:0<=s.uL
 zle:z<=1048576
 zl:s.uB≠0->z<=400
theorem zmg{s:Shape}(h:chkV s=0):yY s=0:=by
 unfold chkV at h;by_cases hE:yY s=0
 ·exact hE
 ·rw[if_pos hE]at h;exact absurd h hE
theorem zpd{s:Shape}(h:chkV s=0)(hp:s.uC.length<=400)(hc:0<=s.uB)(hu:0<=s.uL):∃z,MS s z:=by
 have hE:=zmg h;have hE':=hE;unfold yY at hE;split at hE
 ·cases hE
 ·rename_i h1;split at hE
  ·cases hE
  ·rename_i h2;split at hE
   ·cases hE
   ·rename_i h3;by_cases h0:s.uB=0
    ·refine⟨s.uK.toNat,h,hp,by omega,hc,by omega,hu,by omega,fun e=>absurd h0 e⟩
    ·have hs:=zum h h0;have hz:0<=sizeV s/\sizeV s<=400:=by
      unfold sizeV;rw[if_neg h0];split
      ·have:szN s.uC<=s.uC.length:=by unfold szN;omega
       omega
      ·repeat' split
       all_goals omega
     refine⟨s.uK.toNat,h,hp,by omega,hc,by omega,hu,by omega,fun _=>by omega⟩
def alw(a b:Int):Bool:=decide ((bits .and .u8 ((Am.zt (atV [.int .u8 63,.int .u8 15,.int .u8 63,.int .u8 15,.int .u8 61,.int .u8 61] a))/2^b.toNat) 1)=1)
def Vo(s t:Shape):Bool:=if s.uB=4/\0<s.uD/\(t.uB=2\/t.uB=3)then false else alw s.uB t.uB
theorem zlp(N:Nat){s t:Shape}(h1:0<=s.uB)(h2:s.uB<=5)(h3:0<=t.uB)(h4:t.uB<=5):KH N s t=some (Vo s t):=by
 have k1:qB N s t=some (alw s.uB t.uB):=by
  unfold qB;have hn:(zg t.uB&&Nat.ble t.uB.toNat 8)=true:=by unfold zg;rw[decide_eq_true h3,uBm,uBj];omega
  rw[zq.2 ⟨h1,by omega⟩,za,hn,za];rfl
 have k0:∀x:Bool,x=decide (t.uB=2\/t.uB=3)->ZS N x s t=some (Vo s t):=by
  intro x hx;unfold ZS Vo;rw[k1,zb];by_cases e4:s.uB=4
  ·rw[if_pos e4,zb];by_cases es:0<s.uD
   ·rw[if_pos es];cases x with
    |true=>rw[cond_true,if_pos ⟨e4,es,of_decide_eq_true hx.symm⟩]
    |false=>rw[cond_false,if_neg (fun e=>of_decide_eq_false hx.symm e.2.2)]
   ·rw[if_neg es,if_neg (fun e=>es e.2.1)]
  ·rw[if_neg e4,if_neg (fun e=>e4 e.1)]
 unfold KH;rw[zb];by_cases e2:t.uB=2
 ·rw[if_pos e2];exact k0 _ (decide_eq_true (.inl e2)).symm
 ·rw[if_neg e2];exact k0 _ (decide_eq_decide.2 ⟨fun e=>.inr e,fun e=>by rcases e with e|e;exact absurd e e2;exact e⟩)
theorem ztF{s t:Shape}(h4:s.uB=4)(h:Vo s t=true)(h1:0<=t.uB)(h2:t.uB<=5)(ht:t.uB≠0)(ht4:t.uB≠4)(ht5:t.uB≠5):s.uD<=0:=by
 unfold Vo at h;split at h
 ·cases h
 ·rename_i hn;have:t.uB=1\/t.uB=2\/t.uB=3:=by omega
  rcases this with e|e|e
  ·rw[h4,e]at h;exact absurd h (by decide)
  ·apply Classical.byContradiction;intro hs;exact hn ⟨h4,by omega,.inl e⟩
  ·apply Classical.byContradiction;intro hs;exact hn ⟨h4,by omega,.inr e⟩
def Wz(s:Shape)(b:uBH):Decimal×Int:=if s.uB=4 then zck s s.uA.toNat b else if s.uB=5 then zh8 s s.uA.toNat s.uD.toNat b else if(Lib.trimS b [32]≠[]/\Digs (Lib.trimS b [32]))/\(Lib.trimS b [32]).length<=62 then nrm false (Lib.trimS b [32]) 0 else(zen,15)
theorem NS.nat{s:Shape}{n:Nat}(h:NS s n):s.uA.toNat=n:=by have:=h.dig;omega
theorem ES.nat{s:Shape}{n sc:Nat}{sg:Bool}(h:ES s n sc sg):s.uA.toNat=n/\s.uD.toNat=sc:=by have:=h.dig;have:=h.scl;omega
theorem zrw(b cs:uBH):(Lib.trimS b cs).length<=b.length:=by
 have h:∀(p:UInt8->Bool)(l:uBH),(l.dropWhile p).length<=l.length:=fun p l=>(uBz p).length_le
 unfold Lib.trimS Lib.trimRightS Lib.trimLeftS;refine nY (h _ _) ?_;rw[List.length_reverse];refine nY (h _ _) ?_;rw[List.length_reverse];exact nB _
theorem zu2{l:uBH}(hd:Digs l)(hl:l.length<=62)(h0:l≠[]):∃d,nrm false l 0=(d,0)/\VD d:=by
 have h1:1<=l.length:=by cases l with|nil=>exact absurd rfl h0|cons _ _=>simp
 have hv:val l<10^l.length:=ym hd;have c1:(canon false (val l*10^(-(0:Int)).toNat) (0:Int).toNat).2.1.length<=62:=by rw[show(-(0:Int)).toNat=0 from rfl,uAi,nM];exact nY (yk h1 hv) hl
 have c2:(canon false (val l*10^(-(0:Int)).toNat) (0:Int).toNat).2.2<=62:=nY (zT _ _ _) (by decide);exact⟨_,W4 c1 c2,VD.of c1 c2⟩
theorem zpl{s:Shape}{n:Nat}(h:NS s n){b:uBH}(h0:(zck s n b).2=0):VD (zck s n b).1:=by
 unfold zck at h0⊢;by_cases hr:(Ky s n b).2=0
 ·rw[if_pos hr];obtain⟨r1,r2,r3⟩:=zeY h hr;rw[r3];obtain⟨d1,d2⟩:=zo4 h r1 r2;exact (zpb h d1 d2).1
 ·rw[if_neg hr]at h0;exact absurd h0 hr
theorem ztC{s:Shape}{n sc:Nat}{sg:Bool}(h:ES s n sc sg){b:uBH}(h0:(zh8 s n sc b).2=0):VD (zh8 s n sc b).1:=by
 have h18:=h.n18;have hsc:=h.scn;have hq:=(zmq h b).2.2;unfold zh8 at h0⊢;split at h0
 ·cases h0
 ·rename_i e1;rw[if_neg e1];split at h0
  ·rename_i e2;rw[if_pos e2];exact zsP (n:=n) (by omega) h.n1 hq (by omega)
  ·rename_i e2;rw[if_neg e2];split at h0
   ·rename_i e3;rw[if_pos e3];exact zsP (n:=n) (by omega) h.n1 hq (by omega)
   ·cases h0
theorem zoW{s:Shape}{n:Nat}(h:NS s n):szV s n<=300:=by
 have:=h.n18;unfold szV Y0
 repeat' split
 all_goals omega
theorem MS.sz4{s:Shape}{z n:Nat}(h:MS s z)(hn:NS s n):z=szV s n:=by have h1:=h.siz;have h2:=hn.size;omega
theorem zfi{N:Nat}(hN:3000<N){s:Shape}{z:Nat}(h:MS s z)(h0:s.uB≠0){b:uBH}(hb:b.length=z):
  zee N (fld s b)=some (Wz s b)/\((Wz s b).2=0->VD (Wz s b).1):=by
 have hz:=h.zl h0;unfold zee Wz;show cond (decide (s.uB=4)) _ (cond (decide (s.uB=5)) _ _)=_/\_;rw[zb];by_cases h4:s.uB=4
 ·rw[if_pos h4,if_pos h4];obtain⟨n,hn⟩:=zhx h.chk h4 h.u0;have hz:=zoW hn;rw[<-h.sz4 hn]at hz;rw[hn.nat,zoT hN hn h.chk h.pic (by omega),zc];exact⟨rfl,zpl hn⟩
 ·rw[if_neg h4,if_neg h4,zb];by_cases h5:s.uB=5
  ·rw[if_pos h5,if_pos h5];obtain⟨n,sc,sg,hn⟩:=zhU h.chk h5;rw[hn.nat.1,hn.nat.2];have:=ztK hN hn h.chk b;rw[show fld s b=zxX s b from rfl,this,zc];exact⟨rfl,ztC hn⟩
  ·rw[if_neg h5,if_neg h5];have hl:=zrw b [32];show bnd (ZT b [32]) _=_/\_;rw[za9 (by omega) (by decide) (by decide),zc,zbA (by omega) (by omega),zc,zh];by_cases hd:Lib.trimS b [32]≠[]/\Digs (Lib.trimS b [32])
   ·rw[if_pos hd,zb];by_cases h62:(Lib.trimS b [32]).length<=62
    ·obtain⟨d,e1,e2⟩:=zu2 hd.2 h62 hd.1;rw[if_neg (by omega),if_pos ⟨hd,h62⟩,zbv hN false hd.2 hd.1 (by omega) (by decide) (by decide),zc,e1];exact⟨rfl,fun _=>e2⟩
    ·rw[if_pos (by omega),if_neg (fun e=>h62 e.2)];exact⟨rfl,fun e=>by cases e⟩
   ·rw[if_neg hd,if_neg (fun e=>hd e.1)];exact⟨rfl,fun e=>by cases e⟩
def zeO(t:Shape)(d:Decimal):uBH×Int:=if t.uB=5 then((edT t t.uA.toNat d.uR (Kd d t.uA.toNat t.uD.toNat)).getD [],0)else(wr t t.uA.toNat (zpg t t.uA.toNat d) (fmt t.uA.toNat (zfl d t.uA.toNat t.uD)),0)
def lenT(s:Shape):Nat:=s.uA.toNat+(-s.uD).toNat
def Kp(s t:Shape)(b:uBH):uBH×Int:=if s.uB≠4\/t.uB=0 then(b,0)else if(zck s s.uA.toNat b).2≠0 then([],(zck s s.uA.toNat b).2)else if Jb (zck s s.uA.toNat b).1 (lenT s) 0 then(fmt (lenT s) (quo (val (zck s s.uA.toNat b).1.uA) (zck s s.uA.toNat b).1.uD.toNat 0),0)else([],14)
theorem zsu{N:Nat}(hN:3000<N){s t:Shape}{z:Nat}(h:MS s z)(hsc:s.uB=4->t.uB≠0->s.uD<=0){b:uBH}(hb:b.length=z):zpf N (fld s b) t=some (Kp s t b)/\(Kp s t b).1.length<=1048576:=by
 have hz:=h.zle;unfold zpf Kp;show cond (!decide (s.uB=4)) _ _=_/\_;rw[zh];by_cases h4:s.uB=4
 ·rw[if_pos h4,zb];by_cases t0:t.uB=0
  ·rw[if_pos t0,if_pos (.inr t0)];exact⟨rfl,by rw[hb];exact hz⟩
  ·rw[if_neg t0,if_neg (by rintro(e|e);exact e h4;exact t0 e)];obtain⟨n,hn⟩:=zhx h.chk h4 h.u0;have hz3:=zoW hn;rw[<-h.sz4 hn]at hz3;rw[hn.nat,zoT hN hn h.chk h.pic (by omega),zc,zh];by_cases hg:(zck s n b).2=0
   ·have hs0:=hsc h4 t0;have hs1:=hn.sc1;have h18:=hn.n18;have h1:=hn.n1;have hdg:=hn.dig;have em:jD s.uD 0=0:=by unfold jD;split<;>omega
    have el:(s.uA-s.uD)+jD s.uD 0=((lenT s:Nat):Int):=by unfold lenT;rw[em];omega
    have elt:lenT s=n+(-s.uD).toNat:=by unfold lenT;rw[hn.nat]
    rw[if_pos hg,if_neg (fun e=>e hg)];show chk (ze .i64 (s.uA-s.uD)) (chk (ze .i64 ((s.uA-s.uD)+jD s.uD 0)) (bnd (Ym N (zck s n b).1 ((s.uA-s.uD)+jD s.uD 0) 0) _))=_/\_;rw[el,zk (by omega) (by omega),za,zk (by omega) (by omega),za,WX hN (zpl hn hg) (by omega) (by omega) (by decide) (by decide),zc];refine⟨rfl,?_⟩;split
    ·show(fmt _ _).length<=_;rw[js];omega
    ·show([]:uBH).length<=_;decide
   ·rw[if_neg hg,if_pos hg];exact⟨rfl,uAC _⟩
 ·rw[if_neg h4,if_pos (.inl h4)];exact⟨rfl,by rw[hb];exact hz⟩
def mvV(s t:Shape)(b:uBH):uBH×Int:=if Vo s t=false then([],12)else if s.uB=0 then(fit b t.uK.toNat false,0)else if t.uB=4\/t.uB=5 then(if(Wz s b).2≠0 then([],(Wz s b).2)else zeO t (Wz s b).1)else if(Kp s t b).2≠0 then([],(Kp s t b).2)else if t.uB=3 then(txt t.uC (Kp s t b).1,0)else(fit (Kp s t b).1 t.uK.toNat t.uQ,0)
theorem zv0{t:Shape}(h:chkV t=0)(h3:t.uB=3):X5 t 3=0:=by unfold X5;rw[if_neg (fun e=>e h),if_neg (fun e=>e h3)]
theorem zsw{N:Nat}(hN:3000<N){s t:Shape}{z z':Nat}(h:MS s z)(h':MS t z'){b:uBH}(hb:b.length=z):zfj N (fld s b) t=some (mvV s t b):=by
 have hz:=h.zle;have hz':=h'.zle;have hS:s.uK.toNat=z:=by have:=h.siz;omega
 have hT:t.uK.toNat=z':=by have:=h'.siz;omega
 have k1:∀x:Bool,Vo s t=true->s.uB≠0->x=decide (t.uB=4\/t.uB=5)->KG N x (fld s b) t=some (mvV s t b):=by
  intro x hal h0 hx;unfold KG mvV;rw[if_neg (by rw[hal];decide),if_neg h0];cases x with
  |true=>
   have ht:=of_decide_eq_true hx.symm;obtain⟨e1,e2⟩:=zfi hN h h0 hb;rw[cond_true,if_pos ht,e1,zc,zh];by_cases hn:(Wz s b).2=0
   ·rw[if_pos hn,if_neg (fun e=>e hn),zb];unfold zeO;by_cases h5:t.uB=5
    ·rw[if_pos h5,if_pos h5];obtain⟨n,sc,sg,hes⟩:=zhU h'.chk h5;obtain⟨r,f1,f2⟩:=zmF hN hes h'.chk (e2 hn);rw[hes.nat.1,hes.nat.2,f2,f1,zc];rfl
    ·rw[if_neg h5,if_neg h5];have h4:t.uB=4:=by omega
     obtain⟨n,hns⟩:=zhx h'.chk h4 h'.u0;rw[hns.nat,zu9 hN hns h'.chk h'.pic (e2 hn),zc]
   ·rw[if_neg hn,if_pos hn]
  |false=>
   have ht:=of_decide_eq_false hx.symm;obtain⟨e1,e2⟩:=zsu (t:=t) hN h (fun h4 t0=>ztF h4 hal h'.c0 h'.c5 t0 (fun e=>ht (.inl e)) (fun e=>ht (.inr e))) hb;rw[cond_false,if_neg ht,e1,zc,zh];by_cases hn:(Kp s t b).2=0
   ·rw[if_pos hn,if_neg (fun e=>e hn),zb];by_cases h3:t.uB=3
    ·have hk:=zv0 h'.chk h3;have hzz:=h'.zl (by omega);rw[if_pos h3,if_pos h3,zmD (by omega) h'.pic _ (fun _=>by have:=h'.siz;omega),if_neg (fun e=>e hk),zc]
    ·rw[if_neg h3,if_neg h3,h'.siz,zpy N (by omega) hz',zc,nK]
   ·rw[if_neg hn,if_pos hn]
 have k0:JW N false (fld s b) t=some (mvV s t b):=by
  unfold JW;rw[cond_false];show cond (!decide ((b.length:Int)=s.uK)) _ (bnd (KH N s t) _)=_;rw[decide_eq_true (by rw[hb,h.siz]),uAd,cond_false,zlp N h.c0 h.c5 h'.c0 h'.c5,zc];cases hal:Vo s t with
  |false=>rw[uA7,cond_true];unfold mvV;rw[if_pos hal]
  |true=>
   rw[uAd,cond_false];show cond (decide (s.uB=0)) (bnd (zq3 N b t.uK false) _) _=_;rw[zb];by_cases h0:s.uB=0
   ·rw[if_pos h0,h'.siz,zpy N (by omega) hz',zc];unfold mvV;rw[if_neg (by rw[hal];decide),if_pos h0,hT]
   ·rw[if_neg h0,zb];by_cases h4:t.uB=4
    ·rw[if_pos h4];exact k1 true hal h0 (decide_eq_true (.inl h4)).symm
    ·rw[if_neg h4];exact k1 _ hal h0 (decide_eq_decide.2 ⟨fun e=>.inr e,fun e=>by rcases e with e|e;exact absurd e h4;exact e⟩)
 unfold zfj;show bnd (QV N s) _=_;rw[jl (by omega) h.pic,h.chk,zc,decide_eq_true rfl,uAd,cond_false,jl (by omega) h'.pic,h'.chk,zc,decide_eq_true rfl,uAd];exact k0
end Go.Proofs.C06
end
section
set_option maxRecDepth 100000
namespace Go.Proofs.C06
open Go Go.RowKit Go.Vc Go.Am Go.Dg
def tx(c:Int)(p:uBH)(just:Bool):Shape:=Shape.mk c 0 p 0 0 false false false just false (p.length:Int)
theorem zpk{c:Int}{p:uBH}(hpar:parS p=(tx c p false,0))(hne:p≠[])(hl:p.length<=80)(hsym:∀x∈p,syms.contains x=true)(hc:1<=c/\c<=3)(hsz:(tx c p false).uK=sizeV (tx c p false)):Good p (tx c p false) where
 par:=hpar
 ne:=hne
 len:=hl
 sym:=hsym
 pic:=rfl
 cat:=by show 1<=c/\c<=5;omega
 use:=rfl
 dig:=by show(0:Int)<=18;decide
 num:=fun h=>by have h:c=4:=h;omega
 sca:=by show(0:Int)<=18;decide
 led:=rfl
 sep:=rfl
 jus:=rfl
 bla:=rfl
 siz:=hsz
theorem zsL{m:Nat}(h1:1<=m)(h2:m<=80):Good (List.replicate m 65) (tx 1 (List.replicate m 65) false)/\Good (List.replicate m 88) (tx 2 (List.replicate m 88) false):=by
 have hl:∀c:UInt8,(List.replicate m c).length=m:=fun c=>nE
 have hne:∀c:UInt8,List.replicate m c≠[]:=fun c e=>by have:=congrArg List.length e;rw[hl]at this;simp at this;omega
 have hsz:∀(c:UInt8)(k:Int),c≠86->(k=1\/k=2)->(tx k (List.replicate m c) false).uK=sizeV (tx k (List.replicate m c) false):=fun c k hc hk=>by
  unfold sizeV;rw[if_neg (show¬(tx k (List.replicate m c) false).uB=0 from fun e=>by have e:k=0:=e;omega),if_pos (show(tx k (List.replicate m c) false).uB≠4 from fun e=>by have e:k=4:=e;omega)];unfold szN;show((List.replicate m c).length:Int)=(((List.replicate m c).length-(List.replicate m c).count 86:Nat):Int)
  rw[uBb.2 (fun hm=>hc (uBe hm).symm),Nat.sub_zero]
 have cn:∀(set:uBH)(c:UInt8),set.contains c=true->cnt set (List.replicate m c)=(List.replicate m c).length:=fun set c h=>zcx fun x hx=>by rw[uBe hx];exact h
 refine⟨zpk ?_ (hne _) (by rw[hl];exact h2) (fun c hc=>by rw[uBe hc];decide) (by decide) (hsz 65 1 (by decide) (.inl rfl)),zpk ?_ (hne _) (by rw[hl];exact h2) (fun c hc=>by rw[uBe hc];decide) (by decide) (hsz 88 2 (by decide) (.inr rfl))⟩
 ·unfold parS zbT;rw[if_pos (cn [65] 65 (by decide))];rfl
 ·unfold parS zbT;have k1:¬cnt [65] (List.replicate m (88:UInt8))=(List.replicate m (88:UInt8)).length:=by
   obtain⟨k,rfl⟩:∃k,m=k+1:=⟨m-1,by omega⟩
   rw[uAa,jZ,if_neg (by decide),nC];omega
  have k2:¬(List.replicate m (88:UInt8)).countP zqu=0:=by
   obtain⟨k,rfl⟩:∃k,m=k+1:=⟨m-1,by omega⟩
   rw[uAa,List.countP_cons_of_pos (by rfl)];omega
  rw[if_neg k1,if_neg k2,if_pos (cn [65,88,57] 88 (by decide))];rfl
theorem zvU{c:Int}{p:uBH}(hg:Good p (tx c p false))(hc:c=1\/c=2)(just:Bool):MS (tx c p just) p.length:=by
 have hpar:=zhO hg;have hl:=hg.len;have hs:(p.length:Int)=sizeV (tx c p false):=hg.siz;have hs':(p.length:Int)=sizeV (tx c p just):=hs;refine⟨?_,by show p.length<=400;omega,rfl,by show 0<=c;omega,by show c<=5;omega,by show(0:Int)<=0;decide,by omega,fun _=>by omega⟩;have e1:yY (tx c p just)=0:=by unfold yY tx;dsimp only;rw[if_neg (by omega),if_neg (by omega),if_neg (by omega)]
 unfold chkV;rw[if_neg (fun k=>k e1),if_neg (show¬(tx c p just).uB=0 from fun e=>by have e:c=0:=e;omega)];unfold zdv;rw[show(tx c p just).uC=p from rfl,hpar];unfold XZ;have n4:c≠4:=by omega
 simp only[tx,ne_eq,not_true_eq_false,if_false,or_self,decide_false,nW,false_and,not_false_eq_true,n4];rw[if_neg (by rintro⟨_,e1,e2⟩;omega)];exact if_pos hs'
def gr(n:Nat):Shape:=Shape.mk 0 0 [] 0 0 false false false false false (n:Int)
theorem zw0{n:Nat}(h:n<=1000):MS (gr n) n:=by
 refine⟨?_,uAC _,rfl,uBg 0,show(0:Int)<=5 by decide,uBg 0,by omega,fun e=>absurd rfl e⟩;have e1:yY (gr n)=0:=by unfold yY gr;dsimp only;rw[if_neg (by omega),if_neg (by omega),if_neg (by omega)]
 have e2:zc0 (gr n):=⟨rfl,rfl,rfl,rfl,rfl,rfl,rfl,rfl,rfl⟩
 unfold chkV;rw[if_neg (fun k=>k e1),if_pos (show(gr n).uB=0 from rfl),if_pos e2]
theorem zyj(l:uBH):shT (3::l)=tx 3 (picT (3::l)) false:=by
 unfold shT zf7;rw[if_neg]
 ·rfl
 ·intro h;have:=zjV h 66 (by unfold picT;simp[sy6]);exact absurd this (by decide)
theorem zx4{l:uBH}(hl:l.length<=19):MS (tx 3 (picT (3::l)) false) (picT (3::l)).length:=by have hg:=zqz (l:=3::l) (by simpa using hl);rw[zyj]at hg;have:=hg.len;exact⟨zlJ hg,by show(picT _).length<=400;omega,rfl,show(0:Int)<=3 by decide,show(3:Int)<=5 by decide,uBg 0,by omega,fun _=>by omega⟩
structure FX(x:F_64):Prop where
 k0:0<=x.uG
 d0:0<=x.vM
 d1:x.vM<=255
 p0:0<=x.vP
 p1:x.vP<=255
 f0:0<=x.vQ
 f1:x.vQ<=255
 s0:0<=x.wE
 o0:0<=x.wF
 w0:0<=x.wG
 m0:0<=x.wH
 n0:0<=x.wI
 t0:0<=x.wJ
 a0:0<=x.wK
 ins:∀v∈x.wM,0<=v/\v<=65535
def fF(x:F_64):F:=F.mk x.vM x.vP x.vQ x.wN x.wO
def fE(x:F_64):E:=E.mk x.wE x.wF x.wG x.wH x.wI x.wJ x.wK x.wM x.wQ
theorem zbK{N:Nat}{sym:UInt8}{x:F_64}{b1:Shape}{c:Int}{m:Nat}(hm:m<=1000):∀(k i:Nat),i<=m->m-i<k->
  QR N k [sym] (i:Int) x b1 (Shape.mk c 0 (List.replicate i sym) 0 0 false false false false false (m:Int))=some (tx c (List.replicate m sym) x.uQ)
 |0,i,_,hk=>by omega
 |k+1,i,hi,hk=>by
  show Vr N (QR N k) [sym] _ x b1 _=_;unfold Vr;dsimp only;rw[zb];by_cases h:i<m
  ·rw[if_pos (by omega),yH (by simp;omega),za,zk (by omega) (by omega),za,<-List.replicate_succ',show(i:Int)+1=((i+1:Nat):Int)by omega];exact zbK hm k (i+1) (by omega) (by omega)
  ·have:i=m:=by omega
   subst this;rw[if_neg (by omega)];unfold tx;rw[nE]
theorem zws{c:UInt8}:atS ([[88],[65],[57],[66],[48],[47]]:List uBH) ((c.toNat:Int)%6)=[sy6 c]:=by
 unfold atS sy6;rw[show((c.toNat:Int)%6).toNat=c.toNat%6 by omega];have h:c.toNat%6<6:=uBs _ (by decide);generalize c.toNat%6=j at h;rcases j with _|_|_|_|_|_|j
 all_goals first|rfl|omega
theorem zbJ{N:Nat}{x:F_64}{b1:Shape}{n:Nat}(hn:n<=x.uE.length)(h24:n<=24)(z:Int):∀(k i:Nat),i<=min n 12->min n 12-i<k->
  QQ N k (n:Int) (i:Int) x b1 (Shape.mk 3 0 (picT (3::x.uE.take i)) 0 0 false false false false false z)=some (tx 3 (picT (3::x.uE.take (min n 12))) false)
 |0,i,_,hk=>by omega
 |k+1,i,hi,hk=>by
  show Vq N (QQ N k) _ _ x b1 _=_;unfold Vq;dsimp only;have hlen:(picT (3::x.uE.take i)).length<=100:=by unfold picT;simp;omega
  rw[zb];by_cases h:i<min n 12
  ·have hit:i<x.uE.length:=by omega
   have hnn:(zg (byteAt x.uE (i:Int))&&decide ((0:Int)<6))=true:=by show(zg (((x.uE.getD i 0).toNat:Nat):Int)&&_)=true;unfold zg;rw[decide_eq_true (by omega)];rfl
   have hb:byteAt x.uE (i:Int)=(((x.uE.getD i 0).toNat:Nat):Int):=rfl;rw[if_pos (by omega),zb,if_pos (by omega),zq.2 ⟨by omega,by omega⟩,za];have hnn':(zg (byteAt x.uE (i:Int))&&decide (0<6))=true:=hnn;rw[hnn',za,hb,zq.2 ⟨by omega,by show _<((6:Nat):Int);omega⟩,za,za,zws,yH (by simp;omega),za,zk (by omega) (by omega),za];have e:picT (3::x.uE.take i)++[sy6 (x.uE.getD i 0)]=picT (3::x.uE.take (i+1)):=by rw[zmW hit];unfold picT;simp
   rw[e,show(i:Int)+1=((i+1:Nat):Int)by omega];exact zbJ hn h24 z k (i+1) (by omega) (by omega)
  ·have:i=min n 12:=by omega
   subst this;by_cases h2:(((min n 12:Nat):Nat):Int)<(n:Int)
   ·rw[if_pos h2,zb,if_neg (by omega)];rfl
   ·rw[if_neg h2];rfl
theorem zsr(a b:Nat):Wq (a:Int) (b:Int)=((min a b:Nat):Int):=by unfold Wq;split<;>omega
theorem zrc{N:Nat}(hN:3000<N){x:F_64}(hx:FX x):∃s z,zj1 N x=some s/\MS s z/\z<=400/\s.uB=x.uG%6/\(s.uB=3->z=s.uC.length)/\
  (s.uB=4->K0 N (fF x)=some s)/\(s.uB=5->XA N (fE x)=some s):=by
 have hk:=hx.k0;obtain⟨k,hk6⟩:=YO (k:=6) hk (by decide);have hlt:k<6:=by omega
 have hn:Wq ((x.uE).length:Int) 24=((min x.uE.length 24:Nat):Int):=zsr _ 24;obtain⟨n,hn'⟩:∃n,n=min x.uE.length 24:=⟨_,rfl⟩
 rw[<-hn']at hn;have hn24:n<=24:=by omega
 have hm:jD (n:Int) 1=((max n 1:Nat):Int):=by unfold jD;split<;>omega
 have key:∀t:Bool,t=decide ((k:Int)=1\/(k:Int)=2)->∃s z,QT N (n:Int) (k:Int) t x z0 (Shape.mk (k:Int) 0 [] 0 0 false false false false false (n:Int))=some s/\MS s z/\z<=400/\s.uB=(k:Int)/\(s.uB=3->z=s.uC.length)/\
   (s.uB=4->K0 N (fF x)=some s)/\(s.uB=5->XA N (fE x)=some s):=by
  intro t ht;unfold QT;dsimp only;have txt:∀(c:Int)(sym:UInt8),(c=1/\sym=65\/c=2/\sym=88)->∃s z,QS N (n:Int) [sym] x z0 (Shape.mk c 0 [] 0 0 false false false false false (n:Int))=some s/\MS s z/\z<=400/\s.uB=c/\(s.uB=3->z=s.uC.length)/\
    (s.uB=4->K0 N (fF x)=some s)/\(s.uB=5->XA N (fE x)=some s):=by
   intro c sym hc;have hg:=zsL (m:=max n 1) (by omega) (by omega);refine⟨tx c (List.replicate (max n 1) sym) x.uQ,max n 1,?_,?_,?_,rfl,fun e=>?_,fun e=>?_,fun e=>?_⟩
   ·unfold QS;dsimp only;rw[hm];exact zbK (by omega) N 0 (by omega) (by omega)
   ·rcases hc with⟨rfl,rfl⟩|⟨rfl,rfl⟩
    ·have:=zvU hg.1 (.inl rfl) x.uQ;rwa [nE]at this
    ·have:=zvU hg.2 (.inr rfl) x.uQ;rwa [nE]at this
   ·omega
   ·have e:c=3:=e;omega
   ·have e:c=4:=e;omega
   ·have e:c=5:=e;omega
  cases t with
  |true=>
   have ht:=of_decide_eq_true ht.symm;rw[cond_true,zb];by_cases h2:(k:Int)=2
   ·rw[if_pos h2,h2];exact txt 2 88 (.inr ⟨rfl,rfl⟩)
   ·rw[if_neg h2];have h1:(k:Int)=1:=by omega
    rw[h1];exact txt 1 65 (.inl ⟨rfl,rfl⟩)
  |false=>
   have ht:=of_decide_eq_false ht.symm;rw[cond_false,zb];by_cases h3:(k:Int)=3
   ·rw[if_pos h3,h3];have hl3:=zbJ (N:=N) (x:=x) (b1:=z0) (n:=n) (by omega) hn24 (n:Int) N 0 (by omega) (by omega);refine⟨tx 3 (picT (3::x.uE.take (min n 12))) false,(picT (3::x.uE.take (min n 12))).length,hl3,zx4 (by rw[nA];omega),?_,rfl,fun _=>rfl,(fun e=>by cases e),(fun e=>by cases e)⟩;unfold picT;simp;omega
   ·rw[if_neg h3,zb];by_cases h4:(k:Int)=4
    ·rw[if_pos h4,h4];have hf:=zqF (N:=N) hN (x:=fF x) (dg:=x.vM.toNat) (fm:=x.vQ.toNat) (pt:=x.vP.toNat) (by have:=hx.d0;show x.vM=_;omega) (by have:=hx.f0;show x.vQ=_;omega) (by have:=hx.f1;omega) (by have:=hx.p0;show x.vP=_;omega) (by have:=hx.p1;omega) (by have:=hx.d1;omega);have h1:1<=x.vM.toNat%18+1:=by omega
     have h2:x.vM.toNat%18+1<=18:=by omega
     obtain⟨g1,g2,g3⟩:=zwt (pt:=x.vP.toNat) (fm:=x.vQ.toNat) h1 h2;obtain⟨z,hz⟩:=zpd g2 g3 (by rw[g1.cat];decide) (by rcases g1.use with e|e|e<;>rw[e]<;>decide);have hcat:=g1.cat;refine⟨shX (x.vM.toNat%18+1) x.vP.toNat x.vQ.toNat,z,?_,hz,hz.zl (by rw[hcat];decide),hcat,(fun e=>by rw[hcat]at e;cases e),fun _=>hf,(fun e=>by rw[hcat]at e;cases e)⟩;show bnd (K0 N (fF x)) _=_;rw[hf,zc]
    ·rw[if_neg h4,zb];by_cases h5:(k:Int)=5
     ·rw[if_pos h5,h5];obtain⟨sg,w,mn,ni,pt,pa,hp⟩:=zxI (x:=fE x) hx.s0 hx.o0 hx.w0 hx.m0 hx.n0 hx.t0 hx.a0;obtain⟨s,n',sc,g,e1,e2,e3,e4,e5⟩:=zqP hN hp hx.ins;have hcat:=e3.cat;have hu:s.uL=0:=by
       have:=zmg e2;apply Classical.byContradiction;intro hu;unfold chkV at e2;rw[if_neg (fun h=>h this),if_neg (by omega)]at e2;unfold zdv at e2;split at e2
       ·rename_i hh;exact hh e2
       ·split at e2
        ·cases e2
        ·unfold XZ at e2;split at e2
         ·cases e2
         ·rw[if_pos ⟨hu,by omega⟩]at e2;cases e2
      obtain⟨z,hz⟩:=zpd e2 (by omega) (by rw[hcat];decide) (by omega);refine⟨s,z,?_,hz,hz.zl (by rw[hcat];decide),hcat,(fun e=>by rw[hcat]at e;cases e),(fun e=>by rw[hcat]at e;cases e),fun _=>e1⟩;show bnd (XA N (fE x)) _=_;rw[e1,zc]
     ·have hk0:k=0:=by omega
      subst hk0;rw[if_neg h5];exact⟨gr n,n,rfl,zw0 (by omega),by omega,rfl,(fun e=>by cases e),(fun e=>by cases e),(fun e=>by cases e)⟩
 have hnn:(zg x.uG&&decide (0<6))=true:=by unfold zg;rw[decide_eq_true hk];rfl
 unfold zj1;rw[hnn,za,hn,hk6,zb];by_cases h1:(k:Int)=1
 ·rw[if_pos h1];exact key _ (decide_eq_decide.2 ⟨fun e=>.inl e,fun _=>h1⟩)
 ·rw[if_neg h1];exact key _ (decide_eq_decide.2 ⟨fun e=>.inr e,fun e=>by rcases e with e|e;exact absurd e h1;exact e⟩)
end Go.Proofs.C06
end
section
set_option maxRecDepth 100000
namespace Go.Proofs.C06
open Go Go.RowKit Go.Vc Go.Am Go.Dg
end Go.Proofs.C06
end
section
set_option maxRecDepth 100000
namespace Go.Proofs.C06
open Go Go.RowKit Go.Vc Go.Am Go.Dg
end Go.Proofs.C06
end
section
set_option maxRecDepth 100000
namespace Go.Proofs.C06
open Go Go.RowKit Go.Vc Go.Am Go.Dg
def zD:Decimal:=Decimal.mk false [48] 0
theorem zvT:VD zD:=by have:=VD.of (neg:=false) (v:=0) (s:=0) (by decide) (by decide);exact this
theorem zvL{n:Nat}(c:UInt8)(hn:n<=100000000):zoy ([((c.toNat:Nat):Int)].map toByte) (n:Int)=some (List.replicate n c):=by
 have e:[((c.toNat:Nat):Int)].map toByte=[c]:=by show[toByte _]=[c];rw[jL]
 rw[e];show chk (decide ((0:Int)<=(n:Int))&&decide ((n:Int)<=140737488355328)) (some (List.replicate ((n:Int)).toNat c))=_;rw[decide_eq_true (by omega),decide_eq_true (by omega),nK];rfl
theorem zlm{N n:Nat}(c:UInt8)(hn:n<=100000000):zfh N (n:Int) ((c.toNat:Nat):Int)=some (List.replicate n c,((c.toNat:Nat):Int)):=by unfold zfh;rw[jO,uA4,za,zvL c hn,zc]
def rpV(s:Shape)(c:UInt8):uBH×Int:=if s.uB=4\/s.uB=5 then(if c≠48 then([],12)else if s.uB=5 then((edT s s.uA.toNat false (Kd zD s.uA.toNat s.uD.toNat)).getD [],0)else zno s s.uA.toNat zD)else if s.uB=3 then(txt s.uC (List.replicate s.uC.length c),0)else(List.replicate s.uK.toNat c,0)
theorem qo{N:Nat}(hN:3000<N){s:Shape}{z:Nat}(h:MS s z)(c:UInt8):Xh N ((c.toNat:Nat):Int) s=some (rpV s c):=by
 have hz:=h.zle;have hS:s.uK.toNat=z:=by have:=h.siz;omega
 have hp:=h.pic;have k0:∀t:Bool,t=decide (s.uB=4\/s.uB=5)->JV N s.uB t ((c.toNat:Nat):Int) s=some (rpV s c):=by
  intro t ht;unfold JV rpV;cases t with
  |true=>
   have ht:=of_decide_eq_true ht.symm;rw[cond_true,if_pos ht,zh];by_cases h48:c=48
   ·subst h48;rw[if_pos (show(((48:UInt8).toNat:Nat):Int)=48 from rfl),if_neg (fun e=>e rfl),zb];by_cases h5:s.uB=5
    ·obtain⟨n,sc,sg,hes⟩:=zhU h.chk h5;obtain⟨r,f1,f2⟩:=zmF hN hes h.chk zvT;have f1:edT s n false (Kd zD n sc)=some r:=f1;have f2:zid N (Decimal.mk false [48] 0) s=some (r,0):=f2;rw[if_pos h5,if_pos h5,zv3,zc,f2,zc,hes.nat.1,hes.nat.2,f1];rfl
    ·have h4:s.uB=4:=by omega
     obtain⟨n,hns⟩:=zhx h.chk h4 h.u0;have f2:zpT N (Decimal.mk false [48] 0) s=some (zno s n zD):=zoS hN hns h.chk h.pic zvT;rw[if_neg h5,if_neg h5,zv3,zc,f2,zc,hns.nat]
   ·have:¬(((c.toNat:Nat):Int)=48):=fun e=>h48 ((Zn c 48 (by decide)).1 e)
    rw[if_neg this,if_pos h48]
  |false=>
   have ht:=of_decide_eq_false ht.symm;rw[cond_false,if_neg ht,zb];by_cases h3:s.uB=3
   ·have hk:=zv0 h.chk h3;have hzz:=h.zl (by omega);rw[if_pos h3,if_pos h3,zlm c (by omega),zc,zmD (by omega) h.pic _ (fun _=>by have:=h.siz;omega),if_neg (fun e=>e hk),zc]
   ·rw[if_neg h3,if_neg h3,h.siz,zlm c (by omega),zc,clip_is,zc,nK]
 unfold Xh;rw[jl (by omega) h.pic,h.chk,zc,decide_eq_true rfl,uAd,cond_false,zb];by_cases h4:s.uB=4
 ·rw[if_pos h4];exact k0 _ (decide_eq_decide.2 ⟨fun e=>.inl e,fun _=>h4⟩)
 ·rw[if_neg h4];exact k0 _ (decide_eq_decide.2 ⟨fun e=>.inr e,fun e=>by rcases e with e|e;exact absurd e h4;exact e⟩)
theorem ziy:∀(p b:uBH),(txt p b).length=p.length
 |[],_=>rfl
 |c::p,b=>by unfold txt;split<;>rw[nC,nC,ziy p]
theorem zye(n sc:Nat):Kd zD n sc=0:=by
 unfold Kd zD;have:quo (val (Decimal.mk false [48] 0).uA) (Decimal.mk false [48] 0).uD.toNat (sc:Int)=0:=by unfold quo;rw[show val (Decimal.mk false [48] 0).uA=0 from rfl,uA8,Nat.zero_div]
 rw[this,Nat.zero_mod]
theorem zxR(n:Nat){sc:Int}:Jb zD n sc/\quo (val zD.uA) zD.uD.toNat sc=0:=by
 have hq:quo (val zD.uA) zD.uD.toNat sc=0:=by unfold quo;rw[show val zD.uA=0 from rfl,uA8,Nat.zero_div]
 refine⟨⟨?_,?_⟩,hq⟩
 ·unfold exact;rw[show val zD.uA=0 from rfl,Nat.zero_mod]
 ·rw[hq];exact pow_pos n
theorem znf{s:Shape}{z:Nat}(h:MS s z)(h3:s.uB=3->z=s.uC.length){c:UInt8}(hc:¬((s.uB=4\/s.uB=5)/\c≠48)):(rpV s c).2=0/\(rpV s c).1.length=z:=by
 have hS:s.uK.toNat=z:=by have:=h.siz;omega
 unfold rpV;by_cases h45:s.uB=4\/s.uB=5
 ·rw[if_pos h45,if_neg (fun e=>hc ⟨h45,e⟩)];by_cases h5:s.uB=5
  ·obtain⟨n,sc,sg,hes⟩:=zhU h.chk h5;rw[if_pos h5,hes.nat.1,hes.nat.2,zye,zps hes false (pow_pos n)];refine⟨rfl,?_⟩;have:=zl6 hes (yC n 0) (js n 0) (false&&decide ((0:Nat)≠0));show(zqY s (fmt n 0) (false&&decide ((0:Nat)≠0))).length=z;have:=h.siz;omega
  ·have h4:s.uB=4:=by omega
   obtain⟨n,hns⟩:=zhx h.chk h4 h.u0;obtain⟨f1,f2⟩:=zxR n (sc:=s.uD);rw[if_neg h5,hns.nat];unfold zno;rw[if_pos f1,f2];refine⟨rfl,?_⟩;show(wr s n (false&&s.uM) (fmt n 0)).length=z;rw[(zvW hns (yC n 0) (js n 0) (fun e=>by cases e)).2,h.sz4 hns]
 ·rw[if_neg h45];by_cases c3:s.uB=3
  ·rw[if_pos c3];exact⟨rfl,by rw[ziy];exact (h3 c3).symm⟩
  ·rw[if_neg c3];exact⟨rfl,by rw[nE,hS]⟩
end Go.Proofs.C06
end
section
set_option maxRecDepth 100000
namespace Go.Proofs.C06
open Go Go.RowKit Go.Vc Go.Am Go.Dg
theorem zmZ{t:Shape}{z:Nat}(h:MS t z)(h45:t.uB=4\/t.uB=5){d:Decimal}(_hd:VD d):(zeO t d).2=0/\(zeO t d).1.length=z:=by
 unfold zeO;by_cases h5:t.uB=5
 ·obtain⟨n,sc,sg,hes⟩:=zhU h.chk h5;have hq:Kd d n sc<10^n:=uBs _ (pow_pos n);rw[if_pos h5,hes.nat.1,hes.nat.2,zps hes d.uR hq];have:=zl6 hes (yC n (Kd d n sc)) (js n (Kd d n sc)) (d.uR&&decide (Kd d n sc≠0));have:=h.siz;exact⟨rfl,by show(zqY t (fmt n (Kd d n sc)) (d.uR&&decide (Kd d n sc≠0))).length=z;omega⟩
 ·have h4:t.uB=4:=by omega
  obtain⟨n,hns⟩:=zhx h.chk h4 h.u0;have hv:=VE n _ (zja d n t.uD);rw[if_neg h5,hns.nat];refine⟨rfl,?_⟩;show(wr t n (zpg t n d) (fmt n (zfl d n t.uD))).length=z;rw[(zvW hns (yC _ _) (js _ _) (fun e=>by unfold zpg at e;simp only[mY,decide_eq_true_eq]at e;exact⟨e.2,by rw[hv];exact e.1.2⟩)).2,h.sz4 hns]
theorem zsf{s:Shape}{z:Nat}(h:MS s z)(h0:s.uB≠0){b:uBH}(hb:b.length=z):(Wz s b).2=0->VD (Wz s b).1:=
 (zfi (N:=4000) (by decide) h h0 hb).2
theorem zwT{s t:Shape}{z z':Nat}(h:MS s z)(h':MS t z'){b:uBH}(hb:b.length=z)(h3:t.uB≠3)(he:(mvV s t b).2=0):(mvV s t b).1.length=z':=by
 have hT:t.uK.toNat=z':=by have:=h'.siz;omega
 unfold mvV at he⊢;split at he
 ·cases he
 ·rename_i h1;rw[if_neg h1];split at he
  ·rename_i h2;rw[if_pos h2];show(fit b t.uK.toNat false).length=z';rw[zjq,hT]
  ·rename_i h2;rw[if_neg h2];split at he
   ·rename_i h45;rw[if_pos h45];split at he
    ·rename_i hn;exact absurd he hn
    ·rename_i hn;rw[if_neg hn];exact (zmZ h' h45 (zsf h h2 hb (Classical.byContradiction hn))).2
   ·rename_i h45;rw[if_neg h45];split at he
    ·rename_i hn;exact absurd he hn
    ·rename_i hn;rw[if_neg hn,if_neg h3];show(fit _ t.uK.toNat t.uQ).length=z';rw[zjq,hT]
end Go.Proofs.C06
end
section
set_option maxRecDepth 100000
namespace Go.Proofs.C06
open Go Go.RowKit Go.Vc Go.Am Go.Dg
def sp(c:UInt8):Bool:=([32]:uBH).contains c
end Go.Proofs.C06
end
section
set_option maxRecDepth 100000
namespace Go.Proofs.C06
open Go Go.RowKit Go.Vc Go.Am Go.Dg
end Go.Proofs.C06
end
section
set_option maxRecDepth 100000
namespace Go.Proofs.C06
open Go Go.RowKit Go.Vc Go.Am Go.Dg
theorem zu5{s t:Shape}{z z':Nat}(h:MS s z)(h':MS t z'){b:uBH}(hb:b.length=z)(h3:t.uB=3->z'=t.uC.length)(he:(mvV s t b).2=0):(mvV s t b).1.length=z':=by
 by_cases e3:t.uB=3
 ·unfold mvV at he⊢;split at he
  ·cases he
  ·rename_i h1;rw[if_neg h1];split at he
   ·rename_i h2;rw[if_pos h2];show(fit b t.uK.toNat false).length=z';have:=h'.siz;rw[zjq];omega
   ·rename_i h2;rw[if_neg h2,if_neg (by omega)];rw[if_neg (by omega)]at he;split at he
    ·rename_i hn;exact absurd he hn
    ·rename_i hn;rw[if_neg hn,if_pos e3];show(txt t.uC _).length=z';rw[ziy,h3 e3]
 ·exact zwT h h' hb e3 he
end Go.Proofs.C06
end
section
set_option maxRecDepth 100000
namespace Go.Proofs.C06
open Go Go.RowKit Go.Vc Go.Am Go.Dg
def WB(o:Option (Int×Bool)):Prop:=∃(c:UInt8)(k:Bool),o=some (((c.toNat:Nat):Int),k)
theorem WB.cond{p:Bool}{x y:Option (Int×Bool)}(h:WB x)(h':WB y):WB (cond p x y):=by cases p<;>assumption
theorem wb(c:UInt8)(k:Bool):WB (some (((c.toNat:Nat):Int),k)):=⟨c,k,rfl⟩
theorem zkq(N:Nat)(s:uBH):WB (zeB N s):=by
 have k2:∀s,WB (Kj N s):=fun s=>by
  unfold Kj
  repeat' first|exact wb 0 true|exact wb 34 true|exact wb 0 false|with_reducible refine WB.cond ?_ ?_
 have k1:∀s,WB (Kk N s):=fun s=>by
  unfold Kk
  repeat' first|exact k2 _|exact wb 255 true|with_reducible refine WB.cond ?_ ?_
 have k0:∀s,WB (Kl N s):=fun s=>by
  unfold Kl
  repeat' first|exact k1 _|exact wb 32 true|with_reducible refine WB.cond ?_ ?_
 unfold zeB
 repeat' first|exact k0 _|exact wb 48 true|with_reducible refine WB.cond ?_ ?_
def LF(o:Option (Field×Int)):Prop:=∃s b e,o=some (fld s b,e)/\s.uC.length<=400/\0<=s.uB/\0<=s.uL
theorem lf0(e:Int):LF (some ((Field.mk 0 0 [] 0 0 false false false false false 0 []),e)):=⟨Shape.mk 0 0 [] 0 0 false false false false false 0,[],e,rfl,uAC _,uBg 0,uBg 0⟩
theorem LF.ite{p:Prop}[Decidable p]{x y:Option (Field×Int)}(h:p->LF x)(h':¬p->LF y):LF (if p then x else y):=by
 by_cases hp:p
 ·rw[if_pos hp];exact h hp
 ·rw[if_neg hp];exact h' hp
theorem Wv(s p:uBH):(Lib.trimPrefix s p).length<=s.length:=by
 unfold Lib.trimPrefix;split
 ·rw[nD];omega
 ·exact nB _
theorem zxg(s p:uBH):(Lib.cut s p).1.length+(Lib.cut s p).2.1.length<=s.length:=by
 unfold Lib.cut;split
 ·show(s.take _).length+(s.drop _).length<=_;rw[nA,nD];omega
 ·show s.length+0<=_;omega
theorem zoM{N:Nat}(hN:3000<N){s:uBH}(hs:s.length<=60):LF (zro N s):=by
 have l1:=Wv s [43];have l2:=Wv (Lib.trimPrefix s [43]) [45];have l3:=zxg (Lib.trimPrefix (Lib.trimPrefix s [43]) [45]) [46];generalize hr:Lib.trimPrefix (Lib.trimPrefix s [43]) [45]=rest at l2 l3;obtain⟨w,p,pt,hc⟩:∃w p pt,Lib.cut rest [46]=(w,p,pt):=⟨_,_,_,rfl⟩
 rw[hc]at l3;have l3:w.length+p.length<=rest.length:=l3;have hap:(w++p).length=w.length+p.length:=nH;have k0:∀sg:Bool,sg=decide ((rest.length:Int)<(s.length:Int))->w++p≠[]->Digs (w++p)->LF (zaH N s sg w p (w++p) 0 0 [] 0 0 false false false false false 0):=by
  intro sg hsg hne hd;have k2:∀(pic b:uBH),pic.length<=300->LF (zaF N sg p (w++p) pic 0 0 [] 0 0 false false false false false 0 b):=fun pic b hpl=>by unfold zaF;rw[clip_is,zc];exact⟨Shape.mk 4 0 pic (((w++p).length:Nat):Int) ((p.length:Nat):Int) sg false false false false ((b.length:Nat):Int),b,0,rfl,by show pic.length<=400;omega,show(0:Int)<=4 by decide,uBg 0⟩
  have k3:∀(pic sign:uBH),pic.length<=300->sign.length=10->LF (zaE N sg p (w++p) pic sign 0 0 [] 0 0 false false false false false 0 (w++p)):=fun pic sign hpl hsl=>by
   have hpos:0<(w++p).length:=List.length_pos_iff.2 hne;unfold zaE;obtain⟨i,hi⟩:∃i:Nat,i=(w++p).length-1:=⟨_,rfl⟩
   have hii:((w++p).length:Int)-1=(i:Int):=by omega
   have hx:zn (i:Int) (w++p).length=true:=zq.2 ⟨by omega,by omega⟩;have hb:byteAt (w++p) (i:Int)=((((w++p).getD i 0).toNat:Nat):Int):=rfl;have hm:(w++p).getD i 0∈w++p:=by rw[mZ,mW (by omega:i<(w++p).length)];exact uA5 _
   have hdg:=hd _ hm;have hwr:IntKind.wrap .u8 (((((w++p).getD i 0).toNat:Nat):Int)-48)=(((((w++p).getD i 0).toNat-48):Nat):Int):=by rw[show((((w++p).getD i 0).toNat:Nat):Int)-48=(((((w++p).getD i 0).toNat-48):Nat):Int)by omega];exact zig (by omega) (by omega)
   have hsb:byteAt sign (((((w++p).getD i 0).toNat-48):Nat):Int)=(((sign.getD (((w++p).getD i 0).toNat-48) 0).toNat:Nat):Int):=rfl;rw[hii,zk (by omega) (by omega),za,hx,za,za,hb,hwr,zq.2 ⟨by omega,by omega⟩,za,za,hsb,jO,uA4,za];exact k2 _ _ hpl
  have k1:∀pic:uBH,pic.length<=200->LF (zaG N s sg p (w++p) pic 0 0 [] 0 0 false false false false false 0 (w++p)):=fun pic hpl=>by
   unfold zaG;cases hsg':sg with
   |false=>rw[cond_false];rw[<-hsg'];exact k2 _ _ (by omega)
   |true=>have hlt:=of_decide_eq_true (hsg.symm.trans hsg');rw[cond_true,yH (by simp;omega),za,show(0:Int)=((0:Nat):Int)from rfl,zq.2 ⟨by omega,by omega⟩,za,zb,<-hsg'];exact LF.ite (fun _=>k3 _ _ (by simp;omega) rfl) (fun _=>k3 _ _ (by simp;omega) rfl)
  unfold zaH;rw[zb];refine LF.ite (fun _=>lf0 5) (fun _=>?_);rw[zpi 57 (by omega),zc,zh];refine LF.ite (fun _=>k1 _ (by rw[nE];omega)) (fun _=>?_);rw[zpi 57 (by omega),zc,yH (by simp;omega),za,yH (by simp;omega),za];exact k1 _ (by simp;omega)
 have hcut:znP rest [46]=some (w,p,pt):=by unfold znP;rw[decide_eq_true (by omega),za,hc]
 unfold zro;show LF (bnd (some (Lib.trimPrefix s [43])) fun rr=>bnd (some (Lib.trimPrefix rr [45])) fun rr1=>bnd (znP rr1 [46]) _);rw[zc,zc,hr,hcut,zc];dsimp only;rw[yH (by omega),za,zk (by omega) (by omega),za,zb];refine LF.ite (fun _=>lf0 4) (fun _=>?_);rw[zbA (by omega) (by omega),zc,zh];refine LF.ite (fun hd=>?_) (fun _=>lf0 4);cases pt with
 |true=>rw[cond_true,zb];exact LF.ite (fun _=>lf0 4) (fun _=>k0 _ rfl hd.1 hd.2)
 |false=>rw[cond_false];exact k0 _ rfl hd.1 hd.2
theorem zkj{N:Nat}{s:uBH}(hs:s.length<=60):LF (zkk N s):=by unfold zkk;rw[zb];refine LF.ite (fun _=>lf0 5) (fun _=>?_);rw[zb,if_neg (by omega),zpi 88 (by omega),zc,clip_is,zc];exact⟨Shape.mk 2 0 (List.replicate s.length 88) 0 0 false false false false false ((s.length:Nat):Int),s,0,rfl,by show(List.replicate s.length (88:UInt8)).length<=400;rw[nE];omega,show(0:Int)<=2 by decide,uBg 0⟩
theorem zko{N:Nat}(hN:3000<N)(t:Token)(hs:t.uE.length<=60):∃s b e,zaI N t=some (fld s b,e)/\s.uC.length<=400/\0<=s.uB/\0<=s.uL/\
  (t.uG=1->e=0->∃c:UInt8,zeB N t.uE=some (((c.toNat:Nat):Int),true)):=by
 have fin:∀{o:Option (Field×Int)},LF o->t.uG≠1->∃s b e,(bnd o fun rr=>some (rr.1,rr.2))=some (fld s b,e)/\s.uC.length<=400/\0<=s.uB/\0<=s.uL/\
   (t.uG=1->e=0->∃c:UInt8,zeB N t.uE=some (((c.toNat:Nat):Int),true)):=by
  rintro _ ⟨s,b,e,rfl,h1,h2,h3⟩ hk;exact⟨s,b,e,rfl,h1,h2,h3,fun e=>absurd e hk⟩
 unfold zaI;rw[zb];by_cases h2:t.uG=2
 ·rw[if_pos h2];exact fin (zoM hN hs) (by omega)
 ·rw[if_neg h2,zb];by_cases h3:t.uG=3
  ·rw[if_pos h3];exact fin (zkj hs) (by omega)
  ·rw[if_neg h3,zb];by_cases h1:t.uG=1
   ·obtain⟨c,k,hb⟩:=zkq N t.uE;rw[if_pos h1,hb,zc];dsimp only;cases k with
    |false=>rw[uA7,cond_true];exact⟨Shape.mk 0 0 [] 0 0 false false false false false 0,[],11,rfl,uAC _,uBg 0,uBg 0,fun _ e=>by cases e⟩
    |true=>
     rw[uAd,cond_false,zb];have fin2:∀{o:Option (Field×Int)},LF o->∃s b e,(bnd o fun rr=>some (rr.1,rr.2))=some (fld s b,e)/\s.uC.length<=400/\0<=s.uB/\0<=s.uL/\
       (t.uG=1->e=0->∃c':UInt8,some (((c.toNat:Nat):Int),true)=some (((c'.toNat:Nat):Int),true)):=by
      rintro _ ⟨s,b,e,rfl,h1,h2,h3⟩;exact⟨s,b,e,rfl,h1,h2,h3,fun _ _=>⟨c,rfl⟩⟩
     by_cases h48:((c.toNat:Nat):Int)=48
     ·rw[if_pos h48];exact fin2 (zoM hN (by decide))
     ·rw[if_neg h48,jO,uA4,za];exact fin2 (zkj (by show 1<=60;decide))
   ·rw[if_neg h1];exact⟨Shape.mk 0 0 [] 0 0 false false false false false 0,[],12,rfl,uAC _,uBg 0,uBg 0,fun e=>absurd e h1⟩
end Go.Proofs.C06
end
section
set_option maxRecDepth 100000
namespace Go.Proofs.C06
open Go Go.RowKit Go.Vc Go.Am Go.Dg
def zo2(c k:Int)(t:uBH):AV:=.agg [.int .u8 c,.int .u8 k,.str t,.int .i64 0,.int .i64 0,.bool false]
def RR(v:AV):Prop:=∃c k t,v=zo2 c k t/\t.length<=60
theorem zvM(L:List AV)(m:Nat):atV L (m:Int)=L.getD m .undef:=by unfold atV;rw[nK]
theorem zjT{L:List AV}{m:Nat}{v:AV}(h:L[m]? =some v):atV L (m:Int)=v:=by rw[zvM,mZ,h];rfl
theorem zfx{L:List AV}{m:Nat}{v:AV}(h:L[m]? =some v):zn (m:Int) L.length=true:=by have:=(mX.1 h).1;exact zq.2 ⟨by omega,by omega⟩
theorem zsG{n:Nat}(h:n<=1000000000):ze .i64 ((n:Int)+1)=true:=yh.2 (by unfold inK;exact⟨by show(-9223372036854775808:Int)<=_;omega,by show _<=(9223372036854775807:Int);omega⟩)
theorem zqn{N:Nat}(hN:3000<N){s t:Shape}{b:uBH}(hp:s.uC.length<=400)(hc:0<=s.uB)(hu:0<=s.uL){z':Nat}(ht:MS t z')(h3:t.uB=3->z'=t.uC.length):
  ∃r,zfj N (fld s b) t=some r/\(r.2=0->r.1.length=z'):=by
 by_cases hk:chkV s=0
 ·obtain⟨z,hz⟩:=zpd hk hp hc hu;by_cases hl:b.length=z
  ·exact⟨_,zsw hN hz ht hl,fun e=>zu5 hz ht hl h3 e⟩
  ·refine⟨([],5),?_,fun e=>by cases e⟩;unfold zfj;show bnd (QV N s) _=_;rw[jl (by omega) hp,hk,zc,decide_eq_true rfl,uAd,cond_false,jl (by omega) ht.pic,ht.chk,zc,decide_eq_true rfl,uAd];unfold JW;show cond false _ (cond (!decide ((b.length:Int)=s.uK)) _ _)=_;rw[cond_false,decide_eq_false (by rw[hz.siz];omega),uA7,cond_true]
 ·refine⟨([],1),?_,fun e=>by cases e⟩;unfold zfj;show bnd (QV N s) _=_;rw[jl (by omega) hp,zc,decide_eq_false hk,uA7,cond_true];unfold JW;rw[cond_true]
theorem WA{N:Nat}(hN:3000<N)(t:Token)(ht:t.uE.length<=60){s:Shape}{z:Nat}(hm:MS s z)(h3:s.uB=3->z=s.uC.length):∃r,qA N t s=some r/\(r.2=0->r.1.length=z):=by
 obtain⟨ls,lb,e,w1,w2,w3,w4,w5⟩:=zko hN t ht;obtain⟨c,k,wb1⟩:=zkq N t.uE;obtain⟨mv,hmv,hml⟩:=zqn hN (b:=lb) w2 w3 w4 hm h3;have hrp:=qo hN hm c;have hrl:(rpV s c).2=0->(rpV s c).1.length=z:=fun e=>by
  by_cases hc:(s.uB=4\/s.uB=5)/\c≠48
  ·unfold rpV at e;rw[if_pos hc.1,if_pos hc.2]at e;cases e
  ·exact (znf hm h3 hc).2
 unfold qA;rw[w1,zc];dsimp only;rw[zh];by_cases he:e=0
 ·have kk:∀x:Bool,qX N ((c.toNat:Nat):Int) x s (fld ls lb)=some (if x=true then rpV s c else mv):=fun x=>by
   unfold qX;cases x with
   |true=>rw[cond_true,hrp,zc];rfl
   |false=>rw[cond_false,hmv,zc];rfl
  have fin:∀x:Bool,∃r,some (if x=true then rpV s c else mv)=some r/\(r.2=0->r.1.length=z):=fun x=>by
   cases x with
   |true=>exact⟨_,rfl,hrl⟩
   |false=>exact⟨_,rfl,hml⟩
  rw[if_pos he,wb1,zc];dsimp only;cases k with
  |true=>rw[cond_true,kk];exact fin _
  |false=>rw[cond_false,kk];exact fin _
 ·rw[if_neg he];exact⟨_,rfl,fun e'=>absurd e' he⟩
def zx9(w:Int):Int:=Am.zt (atV [.int .u8 2,.int .u8 1,.int .u8 3,.int .u8 1,.int .u8 2,.int .u8 1] w)
def zx8(w:Int):uBH:=atS [[49,50],[90,69,82,79,83],[97,98],[83,80,65,67,69],[45,49,46,53],[72,73,71,72,45,86,65,76,85,69]] w
def Q5(c w:Int):AV:=zo2 (1+c%5) (zx9 (w%6)) (zx8 (w%6))
def zxt(v:AV):Prop:=∃c w:Int,v=.agg [.int .u8 c,.int .u8 w]/\0<=c/\0<=w
theorem zxv{c:Int}(h:0<=c):IntKind.wrap .u8 (1+c%5)=1+c%5:=by
 obtain⟨n,hn⟩:=YO (k:=5) h (by decide);have:n<5:=by omega
 rw[hn];rcases n with _|_|_|_|_|n
 all_goals first|rfl|(exfalso;omega)
theorem zo1{c w:Int}(_hc:0<=c)(hw:0<=w):RR (Q5 c w):=by
 obtain⟨n,hn⟩:=YO (k:=6) hw (by decide);have:n<6:=by omega
 refine⟨_,_,_,rfl,?_⟩;rw[hn];rcases n with _|_|_|_|_|_|n
 all_goals first|decide|(exfalso;omega)
theorem zhn{N:Nat}{go:((List AV×Int)⊕(List AV×Int×List AV))->Option (List AV)}{L:List AV}{m:Nat}{c w:Int}(h:L[m]? =some (.agg [.int .u8 c,.int .u8 w]))(hc:0<=c)(hw:0<=w)(hm:m<5):
  (JO N go L (m:Int)=go (.inr (L,((m+1:Nat):Int),[Q5 c w])))/\∀b:List AV,b.length<=5->Zo N go L (m:Int) b=go (.inr (L,((m+1:Nat):Int),b++[Q5 c w])):=by
 have hlt:=(mX.1 h).1;have e1:=zjT h;have e2:=zfx h;have e3:=zxv hc;have e4:=zsG (n:=m) (by omega);have e5:(m:Int)+1=((m+1:Nat):Int):=by omega
 obtain⟨n,hn⟩:=YO (k:=6) hw (by decide);have hn6:n<6:=by omega
 have g1:∀b:List AV,b.length<=5->∀v:AV,zM 56 (b++[v]).length=true:=fun b hb v=>by rw[nH,uAM];unfold zM;rw[mY,uBj,uBj];exact⟨by omega,by omega⟩
 have c1:zg c=true:=decide_eq_true hc;have c2:zg w=true:=decide_eq_true hw;have d1:decide ((m:Int)<(L.length:Int))=true:=decide_eq_true (by omega);have d2:decide ((m:Int)<5)=true:=decide_eq_true (by omega);constructor
 ·unfold JO;simp only[yc,zc,e1,e2,e3,e4,hn,zf,Am.zt,d1,d2,c1,c2,cond_true,uAZ,uAN];refine Eq.trans (b:=chk (zM 56 ([]++[Q5 c w]).length) (go (.inr (L,(m:Int)+1,[]++[Q5 c w])))) ?_ ?_
  ·unfold Q5;rw[hn];rcases n with _|_|_|_|_|_|n
   all_goals first|rfl|(exfalso;omega)
  ·rw[g1 _ (uAC _),za,e5];rfl
 ·intro b hb;unfold Zo;simp only[yc,zc,e1,e2,e3,e4,hn,zf,Am.zt,d1,d2,c1,c2,cond_true,uAZ,uAN];refine Eq.trans (b:=chk (zM 56 (b++[Q5 c w]).length) (go (.inr (L,(m:Int)+1,b++[Q5 c w])))) ?_ ?_
  ·unfold Q5;rw[hn];rcases n with _|_|_|_|_|_|n
   all_goals first|rfl|(exfalso;omega)
  ·rw[g1 _ hb,za,e5]
theorem zho{N:Nat}{L:List AV}(hL:∀v∈L,zxt v)(h5:L.length<=5):∀(k m:Nat)(b:List AV),m<=L.length->L.length-m<k->b.length=m->(∀v∈b,RR v)->
  ∃R:List AV,Yl N k (.inr (L,(m:Int),b))=some R/\(∀v∈R,RR v)/\R.length=L.length
 |0,_,_,_,h,_,_=>by omega
 |k+1,m,b,hm,hk,hb,hr=>by
  show∃R,Zo N (Yl N k) L (m:Int) b=some R/\_;by_cases hml:m<L.length
  ·obtain⟨c,w,hv,hc,hw⟩:=hL L[m] (uA5 hml);have hg:L[m]? =some (.agg [.int .u8 c,.int .u8 w]):=by rw[mW hml,hv]
   rw[(zhn hg hc hw (by omega)).2 b (by omega)];refine zho hL h5 k (m+1) _ (by omega) (by omega) (by simp[hb]) fun v hv=>?_
   rcases nJ.1 hv with h|h
   ·exact hr v h
   ·rw[nF]at h;subst h;exact zo1 hc hw
  ·have:Zo N (Yl N k) L (m:Int) b=some b:=by unfold Zo;rw[decide_eq_false (by omega),cond_false]
   exact⟨b,this,hr,by omega⟩
theorem zuq{N:Nat}(hN:100<N){L:List AV}(hL:∀v∈L,zxt v)(h5:L.length<=5):∃R:List AV,zww N L=some R/\(∀v∈R,RR v)/\R.length=L.length:=by
 obtain⟨n,rfl⟩:∃n,N=n+1:=⟨N-1,by omega⟩
 show∃R,JO (n+1) (Yl (n+1) n) L 0=some R/\_;by_cases h0:0<L.length
 ·obtain⟨c,w,hv,hc,hw⟩:=hL L[0] (uA5 h0);have hg:L[0]? =some (.agg [.int .u8 c,.int .u8 w]):=by rw[mW h0,hv]
  rw[show(0:Int)=((0:Nat):Int)from rfl,(zhn hg hc hw (by omega)).1];refine zho hL h5 n 1 _ (by omega) (by omega) rfl fun v hv=>?_
  rw[nF]at hv;subst hv;exact zo1 hc hw
 ·refine⟨[],?_,(fun v hv=>by cases hv),by show 0=L.length;omega⟩;unfold JO;rw[decide_eq_false (by omega),cond_false]
theorem idx_gets{N:Nat}(hN:3000<N){R:List AV}(hR:∀v∈R,RR v)(hlen:R.length<=1000){s:Shape}:∀(k k' m:Nat),m<=R.length->R.length-m<k->R.length-m<k'->
  (∃(j:Nat)(c q:Int)(t:uBH),R[j]? =some (zo2 c q t)/\t.length<=60/\ZF N k R (R.length:Int) (m:Int) s=some ((j:Int),s)/\
   qY N k' R (m:Int) s=bnd (qA N (Token.mk q t 0 0 false) s) fun rr=>some (rr.1,decide (rr.2=0),rr.2))\/
  (ZF N k R (R.length:Int) (m:Int) s=some (-1,s)/\qY N k' R (m:Int) s=ye N (fun _ _ _=>none) R (R.length:Int) s)
 |0,_,_,_,h,_=>by omega
 |_+1,0,_,_,_,h=>by omega
 |k+1,k'+1,m,hm,hk,hk'=>by
  show(∃(j:Nat)(c q:Int)(t:uBH),_/\_/\Jv N (ZF N k) R (R.length:Int) (m:Int) s=_/\ye N (qY N k') R (m:Int) s=_)\/(Jv N (ZF N k) R (R.length:Int) (m:Int) s=_/\ye N (qY N k') R (m:Int) s=_)
  by_cases hml:m<R.length
  ·obtain⟨c,q,t,hv,ht⟩:=hR R[m] (uA5 hml);have hg:R[m]? =some (zo2 c q t):=by rw[mW hml,hv]
   have e1:=zjT hg;have e2:=zfx hg;have e4:=zsG (n:=m) (by omega);have d1:decide ((m:Int)<(R.length:Int))=true:=decide_eq_true (by omega);have a:Jv N (ZF N k) R (R.length:Int) (m:Int) s=cond (decide (c=s.uB)) (some ((m:Int),s)) (ZF N k R (R.length:Int) ((m:Int)+1) s):=by unfold Jv zwS;simp only[e1,e2,e4,d1,cond_true,zc];rfl
   have b:ye N (qY N k') R (m:Int) s=cond (decide (c=s.uB)) (bnd (qA N (Token.mk q t 0 0 false) s) fun rr=>some (rr.1,decide (rr.2=0),rr.2)) (qY N k' R ((m:Int)+1) s):=by unfold ye;simp only[e1,e2,e4,d1,cond_true];rfl
   rw[a,b];by_cases hcs:c=s.uB
   ·rw[decide_eq_true hcs,cond_true,cond_true];exact .inl ⟨m,c,q,t,hg,ht,rfl,rfl⟩
   ·rw[decide_eq_false hcs,cond_false,cond_false,show(m:Int)+1=((m+1:Nat):Int)by omega];exact idx_gets hN hR hlen k k' (m+1) (by omega) (by omega) (by omega)
  ·right;have e:m=R.length:=by omega
   subst e;constructor
   ·unfold Jv;rw[decide_eq_false (by omega),cond_false]
   ·unfold ye;rw[decide_eq_false (by omega),cond_false,cond_false]
theorem zfs(N:Nat)(R:List AV)(s:Shape)(go:List AV->Int->Shape->Option (uBH×Bool×Int)):ye N go R (R.length:Int) s=if 0<R.length then some ([],false,0)else
  ZU N (if s.uB=4\/s.uB=5 then 48 else 32) s:=by
 unfold ye;rw[decide_eq_false (by omega),cond_false,zb];by_cases h0:0<R.length
 ·rw[if_pos (by omega),if_pos h0]
 ·rw[if_neg (by omega),if_neg h0,zb];by_cases h4:s.uB=4
  ·rw[if_pos h4,if_pos (.inl h4)]
  ·rw[if_neg h4,zb];by_cases h5:s.uB=5
   ·rw[if_pos h5,if_pos (.inr h5)]
   ·rw[if_neg h5,if_neg (by omega)]
theorem zm4{N:Nat}(hN:3000<N){R:List AV}(hR:∀v∈R,RR v)(hlen:R.length<=1000){s:Shape}{z:Nat}(hm:MS s z)(h3:s.uB=3->z=s.uC.length)(h0:s.uB≠0):
  ∃b is e,Zs N s R=some (b,is,e)/\zhH N s R=some (b,is,e)/\(is=true->e=0->b.length=z):=by
 have ev:∀c:UInt8,((c=48/\(s.uB=4\/s.uB=5))\/(c=32/\¬(s.uB=4\/s.uB=5)))->(rpV s c).2=0/\(rpV s c).1.length=z:=fun c hc=>znf hm h3 (fun h=>by
  rcases hc with⟨rfl,_⟩|⟨_,h'⟩
  ·exact h.2 rfl
  ·exact h' h.1)
 unfold Zs zhH zu4;rw[jl (by omega) hm.pic,hm.chk,zc,decide_eq_true rfl,uAd,cond_false,decide_eq_false h0,cond_false];rcases idx_gets hN hR hlen (s:=s) N N 0 (uAC _) (by omega) (by omega)with⟨j,c,q,t,g1,g2,g3,g4⟩|⟨g3,g4⟩
 ·obtain⟨r,r1,r2⟩:=WA hN (Token.mk q t 0 0 false) g2 hm h3;have e1:=zjT g1;have e2:=zfx g1;rw[show(0:Int)=((0:Nat):Int)from rfl,g3,g4,zc,r1,zc];dsimp only;rw[decide_eq_true (by omega),cond_true];refine⟨r.1,decide (r.2=0),r.2,?_,rfl,fun _ e=>r2 e⟩;simp only[e1,e2];show bnd (qA N (Token.mk q t 0 0 false) s) _=_;rw[r1,zc];rfl
 ·rw[show(0:Int)=((0:Nat):Int)from rfl,g3,g4,zc,zfs];dsimp only;rw[decide_eq_false (by omega),cond_false,zb];by_cases hl:0<R.length
  ·rw[if_pos (by omega),if_pos hl];exact⟨_,_,_,rfl,rfl,fun e=>by cases e⟩
  ·rw[if_neg (by omega),if_neg hl];have k1:∀(x:Bool)(c:UInt8),c=(if x=true then 48 else 32)->yN N x s=some ((rpV s c).1,decide ((rpV s c).2=0),(rpV s c).2)/\ZU N ((c.toNat:Nat):Int) s=some ((rpV s c).1,decide ((rpV s c).2=0),(rpV s c).2):=by
    intro x c hc;subst hc;unfold yN Ju ZU;cases x with
    |true=>rw[cond_true];have:=qo hN hm (48:UInt8);rw[show(48:Int)=(((48:UInt8).toNat:Nat):Int)from rfl,this];exact⟨rfl,by rw[if_pos rfl,this];rfl⟩
    |false=>rw[cond_false];have:=qo hN hm (32:UInt8);rw[show(32:Int)=(((32:UInt8).toNat:Nat):Int)from rfl,this];exact⟨rfl,by rw[if_neg (by decide),this];rfl⟩
   by_cases h4:s.uB=4
   ·obtain⟨k2,k3⟩:=k1 true 48 rfl;rw[zb,if_pos h4,k2,if_pos (.inl h4),show(48:Int)=(((48:UInt8).toNat:Nat):Int)from rfl,k3];exact⟨_,_,_,rfl,rfl,fun _ _=>(ev 48 (.inl ⟨rfl,.inl h4⟩)).2⟩
   ·rw[zb,if_neg h4];by_cases h5:s.uB=5
    ·obtain⟨k2,k3⟩:=k1 true 48 rfl;rw[decide_eq_true h5,k2,if_pos (.inr h5),show(48:Int)=(((48:UInt8).toNat:Nat):Int)from rfl,k3];exact⟨_,_,_,rfl,rfl,fun _ _=>(ev 48 (.inl ⟨rfl,.inr h5⟩)).2⟩
    ·obtain⟨k2,k3⟩:=k1 false 32 rfl;rw[decide_eq_false h5,k2,if_neg (by omega),show(32:Int)=(((32:UInt8).toNat:Nat):Int)from rfl,k3];exact⟨_,_,_,rfl,rfl,fun _ _=>(ev 32 (.inr ⟨rfl,by omega⟩)).2⟩
theorem zqA{N:Nat}(hN:3000<N){R:List AV}(hR:∀v∈R,RR v)(hlen:R.length<=1000){s:Shape}{z:Nat}(hm:MS s z)(h3:s.uB=3->z=s.uC.length):∃r,zhH N s R=some r:=by
 unfold zhH;rcases idx_gets hN hR hlen (s:=s) N N 0 (uAC _) (by omega) (by omega)with⟨j,c,q,t,g1,g2,g3,g4⟩|⟨g3,g4⟩
 ·obtain⟨r,r1,r2⟩:=WA hN (Token.mk q t 0 0 false) g2 hm h3;rw[show(0:Int)=((0:Nat):Int)from rfl,g4,r1,zc];exact⟨_,rfl⟩
 ·rw[show(0:Int)=((0:Nat):Int)from rfl,g4,zfs];by_cases hl:0<R.length
  ·rw[if_pos hl];exact⟨_,rfl⟩
  ·rw[if_neg hl];unfold ZU;by_cases h45:s.uB=4\/s.uB=5
   ·rw[if_pos h45,show(48:Int)=(((48:UInt8).toNat:Nat):Int)from rfl,qo hN hm (48:UInt8),zc];exact⟨_,rfl⟩
   ·rw[if_neg h45,show(32:Int)=(((32:UInt8).toNat:Nat):Int)from rfl,qo hN hm (32:UInt8),zc];exact⟨_,rfl⟩
theorem zdy(x:F_64)(L:List AV)(s:Shape)(hx:FX x)(hL:∀v∈L,zxt v)(hc:0<=s.uB)(hu:0<=s.uL):∃N,yb N x L s=some true:=by
 refine⟨4000,?_⟩;have hN:3000<4000:=by decide
 generalize (4000:Nat)=N at hN⊢;unfold yb;rw[zb];by_cases h5:5<(L.length:Int)
 ·rw[if_pos h5]
 ·rw[if_neg h5,zb];by_cases h300:300<(s.uC.length:Int)
  ·rw[if_pos h300]
  ·rw[if_neg h300];obtain⟨R,r1,hR,hRl⟩:=zuq (N:=N) (by omega) hL (by omega);obtain⟨o,z,e1,hm,_,_,h3,_⟩:=zrc hN hx;have hlen:R.length<=1000:=by omega
   rw[r1,zc,e1,zc];have k1:yi N s=some true:=by
    unfold yi;have hp:s.uC.length<=400:=by omega
    by_cases hk:chkV s=0
    ·obtain⟨z',hm'⟩:=zpd hk hp hc hu;by_cases h0:s.uB=0
     ·have:Zs N s []=some ([],false,12):=by unfold Zs;rw[jl (by omega) hp,hk,zc,decide_eq_true rfl,uAd,cond_false,decide_eq_true h0,cond_true]
      rw[this,zc,jl (by omega) hp,hk,zc,h0];rfl
     ·have:∃b is,Zs N s []=some (b,is,0):=by
       unfold Zs zu4;have g3:ZF N N [] (([]:List AV).length:Int) 0 s=some (-1,s):=by
        obtain⟨n,rfl⟩:∃n,N=n+1:=⟨N-1,by omega⟩
        rfl
       rw[jl (by omega) hp,hk,zc,decide_eq_true rfl,uAd,cond_false,decide_eq_false h0,cond_false,g3,zc];dsimp only;have rp:∀c:UInt8,(c=48\/¬(s.uB=4\/s.uB=5))->(rpV s c).2=0:=fun c hc=>by
        unfold rpV;by_cases h45:s.uB=4\/s.uB=5
        ·have hc48:c=48:=hc.resolve_right (fun h=>h h45);subst hc48;have hne:s.uB≠3:=by omega
         have:=(znf hm' (fun e=>absurd e hne) (c:=48) (fun h=>h.2 rfl)).1;unfold rpV at this;exact this
        ·rw[if_neg h45];split<;>rfl
       have k2:∀(x:Bool)(c:UInt8),c=(if x=true then 48 else 32)->(c=48\/¬(s.uB=4\/s.uB=5))->∃b is,yN N x s=some (b,is,0):=by
        intro x c hc hc2;subst hc;unfold yN Ju;have h2:=rp _ hc2;cases x with
        |true=>rw[cond_true,show(48:Int)=(((48:UInt8).toNat:Nat):Int)from rfl,qo hN hm' (48:UInt8),zc];rw[if_pos rfl]at h2;rw[h2];exact⟨_,_,rfl⟩
        |false=>rw[cond_false,show(32:Int)=(((32:UInt8).toNat:Nat):Int)from rfl,qo hN hm' (32:UInt8),zc];rw[if_neg (by decide)]at h2;rw[h2];exact⟨_,_,rfl⟩
       show∃b is,cond (decide (s.uB=4)) (yN N true s) (yN N (decide (s.uB=5)) s)=some (b,is,0);rw[zb];by_cases h4:s.uB=4
       ·rw[if_pos h4];exact k2 true 48 rfl (.inl rfl)
       ·rw[if_neg h4];by_cases h5:s.uB=5
        ·rw[decide_eq_true h5];exact k2 true 48 rfl (.inl rfl)
        ·rw[decide_eq_false h5];exact k2 false 32 rfl (.inr (by omega))
      obtain⟨b,is,e⟩:=this;rw[e,zc,jl (by omega) hp,hk,zc,decide_eq_false h0];rfl
    ·have:Zs N s []=some ([],false,1):=by unfold Zs;rw[jl (by omega) hp,zc,decide_eq_false hk,uA7,cond_true]
     rw[this,zc,jl (by omega) hp,zc,decide_eq_false hk];rfl
   by_cases h0:o.uB=0
   ·have:Zs N o R=some ([],false,12):=by unfold Zs;rw[jl (by omega) hm.pic,hm.chk,zc,decide_eq_true rfl,uAd,cond_false,decide_eq_true h0,cond_true]
    obtain⟨r,hg⟩:=zqA hN hR hlen hm h3;rw[this,zc,hg,zc,decide_eq_true h0,cond_true];unfold qc;simp only[decide_true,uAd,cond_false];exact k1
   ·obtain⟨b,is,e,s1,s2,s3⟩:=zm4 hN hR hlen hm h3 h0;rw[s1,zc,s2,zc,decide_eq_false h0,cond_false];unfold qc;simp only[decide_true,uAd,cond_false];rw[zb];by_cases he:e=0
    ·rw[if_pos he];cases is with
     |true=>rw[cond_true,decide_eq_true (by rw[hm.siz,s3 rfl he]),uAd,cond_false];exact k1
     |false=>rw[cond_false];exact k1
    ·rw[if_neg he];exact k1
end Go.Proofs.C06
end
