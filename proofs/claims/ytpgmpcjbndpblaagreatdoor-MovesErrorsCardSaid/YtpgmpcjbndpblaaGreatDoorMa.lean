/-
  A part of the proof of the laws.
-/
import Derived.Test.YtpgmpcjbndpblaaGreatDoorS7
import Derived.Test.YtpgmpcjbndpblaaGreatDoorUa
import Derived.Test.YtpgmpcjbndpblaaGreatDoorEc
import Derived.Test.YtpgmpcjbndpblaaGreatDoorUd
import Derived.Test.YtpgmpcjbndpblaaGreatDoorEd
import Derived.Test.YtpgmpcjbndpblaaGreatDoorEg
import Derived.Test.YtpgmpcjbndpblaaGreatDoorCi
section
set_option maxRecDepth 100000
namespace Go.Proofs.C06
open Go Go.RowKit Go.Vc Go.Am Go.Dg
def fit(b:uBi)(n:Nat)(left:Bool):uBi:=if left=true then List.replicate (n-b.length) 32++b.drop (b.length-n)else b.take n++List.replicate (n-b.length) 32
theorem zvO(c:UInt8){m:Nat}(hm:m<=100000000):jU [c] (m:Int)=some (List.replicate m c):=by
 have e:∀k:Nat,Lib.repeatL [c] k=List.replicate k c:=fun k=>by
  induction k with
  |zero=>rfl
  |succ k ih=>rw[Lib.repeatL,ih,nK];rfl
 unfold jU;simp only[mQ,mJ,uA1];rw[decide_eq_true (show(0:Int)<=(m:Int)by omega),decide_eq_true (show(m:Int)<=9223372036854775807 by omega),decide_eq_true (by omega),e];rfl
theorem zuk{n:Nat}(h:n<=100000000):(Wg 1 (n:Int)&&decide ((n:Int)=(n:Int)))=true:=by show((Nat.ble (1*n) 281474976710656&&Nat.ble n 9223372036854775807)&&decide ((n:Int)=(n:Int)))=true;rw[decide_eq_true rfl,uAs,mF,Nat.ble_eq,Nat.ble_eq];omega
theorem zpA{l s:uBi}(h:s.length=l.length):yO l s 0 l.length=s:=by unfold yO;rw[List.take_zero,nZ,<-h,uAJ,Nat.min_self,uAN,h,List.drop_length,nA]
theorem zsJ(N:Nat){n:Nat}(h:n<=1048576):zo0 N (n:Int)=some 0:=by unfold zo0;rw[zb,if_neg (by omega),zb,if_neg (by omega)]
theorem zo1(N:Nat){b:uBi}(hb:b.length<=100000000){n:Nat}(hn:n<=1048576)(left:Bool):zqv N b (n:Int) left=some (fit b n left,0):=by
 have hrep:yO (List.replicate n (0:UInt8)) (List.replicate n 32) 0 (List.replicate n (0:UInt8)).length=List.replicate n 32:=zpA (by simp);unfold zqv;rw[zsJ N hn,zc,decide_eq_true rfl,nE,cond_false,zuk (by omega),za,zvO 32 (by omega),zc,mQ,hrep];cases left with
 |false=>rw[cond_false];unfold yO fit;rw[if_neg (by decide),List.take_zero,nZ,mN,uAN,List.drop_replicate];congr 3;rw[show n-min b.length n=n-b.length by omega]
 |true=>
  have e1:jq 0 ((n:Int)-(b.length:Int))=((n-b.length:Nat):Int):=by unfold jq;split<;>omega
  have e2:jq 0 ((b.length:Int)-(n:Int))=((b.length-n:Nat):Int):=by unfold jq;split<;>omega
  rw[cond_true,zg (by omega) (by omega),za,e1,mN,zr.2 ⟨by omega,by omega,Int.le_refl _⟩,za,zg (by omega) (by omega),za,e2,zr.2 ⟨by omega,by omega,Int.le_refl _⟩,za];have e3:Vc.sub b ((b.length-n:Nat):Int) (b.length:Int)=b.drop (b.length-n):=by unfold Vc.sub;rw[mQ,mQ,uAJ]
  have e4:((n:Int)-((n-b.length:Nat):Int)).toNat=n-(n-b.length):=by omega
  rw[e3,e4,mQ];unfold yO fit;rw[if_pos rfl,List.take_replicate,uAM (by omega),mL,List.drop_replicate,show n-(n-b.length+min (b.length-(b.length-n)) (n-(n-b.length)))=0 by omega,nH (by rw[mL];omega)];congr 2;exact nA _
theorem zo2{N:Nat}(s:uBi)(hs:s.length<=1000000):∀(k i:Nat),i<=s.length->s.length-i<k->qS N k s (s.length:Int) (i:Int)=some (decide (Digs (s.drop i)))
 |0,i,_,hk=>by omega
 |k+1,i,hi,hk=>by
  show J3 N (qS N k) s _ _=_;unfold J3;by_cases h:i<s.length
  ·have hd:s.drop i=s.getD i 0::s.drop (i+1):=by rw[mG,mE h];exact uAg h
   rw[decide_eq_true (by omega),cond_true,zn.2 ⟨by omega,by omega⟩,za];have hb:byteAt s (i:Int)=((s.getD i 0).toNat:Int):=rfl;rw[hb];have hdg:zjo N ((s.getD i 0).toNat:Int)=some (decide (48<=(s.getD i 0).toNat/\(s.getD i 0).toNat<=57)):=by
    unfold zjo;rw[zb];by_cases h1:48<=(s.getD i 0).toNat
    ·rw[if_pos (by omega)];congr 1;exact decide_eq_decide.2 ⟨fun h=>⟨h1,by omega⟩,fun h=>by omega⟩
    ·rw[if_neg (by omega),decide_eq_false (fun h=>h1 h.1)]
   rw[hdg,zc,hd];by_cases h1:48<=(s.getD i 0).toNat/\(s.getD i 0).toNat<=57
   ·rw[decide_eq_true h1,nE,cond_false,zg (by omega) (by omega),za,show(i:Int)+1=((i+1:Nat):Int)by omega,zo2 s hs k (i+1) (by omega) (by omega)];congr 1;exact decide_eq_decide.2 ⟨fun h c hc=>by rcases mZ.1 hc with rfl|hc;exact h1;exact h c hc,fun h c hc=>h c (nM _ hc)⟩
   ·rw[decide_eq_false h1,Bool.not_false,cond_true,decide_eq_false (fun h=>h1 (h _ uAc))]
  ·have:s.length=i:=by omega
   subst this;rw[decide_eq_false (by omega),cond_false,List.drop_length,decide_eq_true (show Digs []from Digs.nil)]
theorem zjm{N:Nat}{s:uBi}(hs:s.length<N)(hs2:s.length<=1000000):VY N s=some (decide (s≠[]/\Digs s)):=by
 unfold VY;rw[zf];by_cases h:s=[]
 ·rw[if_pos h,decide_eq_false (fun e=>e.1 h)]
 ·rw[if_neg h];unfold zcH;have:=zo2 (N:=N) s hs2 N 0 (uAR _) (by omega);rw[show((0:Nat):Int)=0 from rfl]at this;rw[this,zc,nU];congr 1;exact decide_eq_decide.2 ⟨fun e=>⟨h,e⟩,fun e=>e.2⟩
end Go.Proofs.C06
end
section
set_option maxRecDepth 100000
namespace Go.Proofs.C06
open Go Go.RowKit Go.Vc Go.Am Go.Dg
def cutK(d:Decimal)(s:Int):Nat:=((d.uD.toNat:Int)-s).toNat
def XA(d:Decimal)(s:Int):Decimal:=gD d.uM (val d.uA/10^cutK d s*10^cutK d s) d.uD.toNat
theorem zvk{N:Nat}(hN:3000<N){d:Decimal}(hd:VD d){s:Int}(h1: -62<=s)(h2:s<=62):∃t,zlx N d s=some (XA d s,t,0):=by
 obtain⟨x,e,e1,e2,e3⟩:=zjj hN hd (s:=s) (by omega) (by omega);have hf:=hd.form;obtain⟨g1,g2,g3,g4,g5,_⟩:=hd;refine⟨decide (val d.uA%10^(d.uD-s).toNat=0),?_⟩;rw[e1];by_cases h:d.uD<=s
 ·obtain⟨rfl,rfl⟩:=e2 h;unfold XA gD;rw[show cutK x s=0 by unfold cutK;omega,nJ,Nat.div_one,mR,hf]
 ·obtain⟨m,hm,hx⟩:=e3 (by omega);have ek:(d.uD-s).toNat=cutK d s:=by unfold cutK;omega
  rw[ek]at hm;have hv:val (d.uA.take (d.uA.length-m)++List.replicate m 48)=val d.uA/10^cutK d s*10^cutK d s:=by
   rw[yC,(jw g2 (by omega)).1];rcases uAO d.uA.length (cutK d s)with hlt|hge
   ·have hm':m=d.uA.length:=by omega
    rw[hm',Nat.div_eq_of_lt (jW g2),Nat.div_eq_of_lt (zhb (mK _) g2 (by omega)),Nat.zero_mul,Nat.zero_mul]
   ·have hm':m=cutK d s:=by omega
    rw[hm']
  have e0:(-d.uD).toNat=0:=by omega
  have hn:nrm d.uM (d.uA.take (d.uA.length-m)++List.replicate m 48) d.uD=(XA d s,0):=by
   rw[WV,hv,e0,nJ,mR]
   ·rfl
   ·rw[hv,e0,nJ,mR];refine yf (by decide) (zhb (Nat.div_mul_le_self _ _) g2 g3)
   ·exact nB (zP _ _ _) (by omega)
  rw[hn]at hx;cases hx;rfl
theorem zoy(v S:Nat){s:Int}(hS:S<=62)(h1: -62<=s):v/10^((S:Int)-s).toNat*10^((S:Int)-s).toNat*10^(62+s).toNat=quo v S s*10^(62+S):=by
 unfold quo;by_cases h:s<=S
 ·rw[show(s-(S:Int)).toNat=0 by omega,nJ,mR,nT,<-uAH,show((S:Int)-s).toNat+(62+s).toNat=62+S by omega]
 ·rw[show((S:Int)-s).toNat=0 by omega,nJ,Nat.div_one,mR,Nat.div_one,nT,<-uAH,show(s-(S:Int)).toNat+(62+S)=(62+s).toNat by omega]
theorem zsy{d:Decimal}(hd:VD d){s:Int}(h1: -62<=s)(h2:s<=62):VD (XA d s)/\exact (val (XA d s).uA) (XA d s).uD.toNat s/\quo (val (XA d s).uA) (XA d s).uD.toNat s=quo (val d.uA) d.uD.toNat s:=by
 obtain⟨g1,g2,g3,g4,g5,_⟩:=hd;have hS62:d.uD.toNat<=62:=by omega
 have hvd:VD (XA d s):=VD.of (yf (by decide) (zhb (Nat.div_mul_le_self _ _) g2 g3)) (nB (zP _ _ _) (by omega));have hg:=ziV d.uM (val d.uA/10^cutK d s*10^cutK d s) hS62;have hS':(XA d s).uD.toNat<=62:=by have:=hvd.2.2.2.2.1;omega
 have key:val (XA d s).uA*10^(62+s).toNat=quo (val d.uA) d.uD.toNat s*10^(62+(XA d s).uD.toNat):=by
  refine uAG (pow_pos (62+(d.uD.toNat:Int)).toNat) ?_;have hg':val (XA d s).uA*10^(62+(d.uD.toNat:Int)).toNat=val d.uA/10^cutK d s*10^cutK d s*10^(62+(XA d s).uD.toNat):=hg;have e1:(62+(d.uD.toNat:Int)).toNat=62+d.uD.toNat:=by omega
  rw[Nat.mul_right_comm,hg',Nat.mul_right_comm,Nat.mul_right_comm (quo _ _ _),e1];congr 1;exact zoy (val d.uA) d.uD.toNat hS62 h1
 exact⟨hvd,((Qi (n:=quo (val d.uA) d.uD.toNat s) hS' (by omega) (by omega)).2 ⟨_,Kx _,key⟩).1,zim hS' (by omega) (by omega) key⟩
def grD(ng:Bool)(q:Nat)(sc:Int):Decimal:=qQ (canon ng (q*10^(-sc).toNat) sc.toNat)
theorem zuL{N:Nat}(hN:3000<N){d:Decimal}(hd:VD d){n:Nat}{sc:Int}(h1:1<=n)(h18:n<=18)(hs1: -18<=sc)(hs:sc<=18)(he:exact (val d.uA) d.uD.toNat sc):
  zkn N d (n:Int) sc=some (grD d.uM (quo (val d.uA) d.uD.toNat sc%10^n) sc,0):=by
 obtain⟨t,e1,e2,e3,e4,e5⟩:=(Vt hN hd (n:=n) (s:=sc) (by omega) (by omega) (by omega)).1 he;have hl:d.uA.length<=1000:=by have:=hd.2.2.1;omega
 unfold zkn;rw[zb9 hN hl h1 (by omega) (by omega) (by omega),if_pos hd,zc,zf,if_pos rfl,e1,zc];dsimp only;have hin:zj ((t.length:Int)-(n:Int)) (t.length:Int) t.length=true:=by unfold zj;simp<;>omega
 have hv:val (t.drop (t.length-n))=quo (val d.uA) d.uD.toNat sc%10^n:=by rw[(jw e2 e4).2,e3]
 have hlt:quo (val d.uA) d.uD.toNat sc%10^n<10^n:=uAS _ (pow_pos n);have hne:t.drop (t.length-n)≠[]:=by intro h;have:=congrArg List.length h;rw[mL,uA1]at this;omega
 have h10:(10:Nat)^n<=10^18:=nN (by decide) h18;have hvd:=zk4 (ng:=d.uM) (q:=quo (val d.uA) d.uD.toNat sc%10^n) (sc:=sc) (by omega) hs1 hs;obtain⟨_,_,v3,_,v5,_⟩:=hvd;have v3:(canon d.uM (quo (val d.uA) d.uD.toNat sc%10^n*10^(-sc).toNat) sc.toNat).2.1.length<=62:=v3;rw[nE,cond_false,zg (by omega) (by omega),za,hin,za,VT _ e4,zbA hN _ (e2.drop _) hne (by rw[mL];omega) (by omega) (by omega),zc,WV,hv]
 ·rfl
 ·rw[hv];exact v3
 ·exact nB (zP _ _ _) (by omega)
def ze0(d:Decimal)(n:Nat)(sc:Int):Nat:=quo (val d.uA) d.uD.toNat sc%10^n
def zoJ(s:Shape)(n:Nat)(d:Decimal):Bool:=(d.uM&&decide (ze0 d n s.uD≠0))&&s.uG
theorem zsz(d:Decimal)(s:Int):(XA d s).uM=(d.uM&&decide (val d.uA/10^cutK d s*10^cutK d s≠0)):=zfq _ _ _
theorem ztA{d:Decimal}(hS:d.uD.toNat<=62){n:Nat}{sc:Int}(h1: -62<=sc)(h:ze0 d n sc≠0):(XA d sc).uM=d.uM:=by
 rw[zsz];have:val d.uA/10^cutK d sc*10^cutK d sc≠0:=by
  intro e;have hk:=zoy (val d.uA) d.uD.toNat hS h1;have e':val d.uA/10^((d.uD.toNat:Int)-sc).toNat*10^((d.uD.toNat:Int)-sc).toNat=0:=e;rw[e',Nat.zero_mul]at hk;have:quo (val d.uA) d.uD.toNat sc=0:=by
   rcases Nat.mul_eq_zero.1 hk.symm with h|h
   ·exact h
   ·exact absurd h (Nat.ne_of_gt (pow_pos _))
  apply h;unfold ze0;rw[this,Nat.zero_mod]
 rw[decide_eq_true this,uAs]
theorem ztH(ng:Bool)(q:Nat)(sc:Int):(grD ng q sc).uM=(ng&&decide (q≠0)):=by show(canon ng (q*10^(-sc).toNat) sc.toNat).1=_;rw[zfR];congr 1;exact decide_eq_decide.2 ⟨fun h e=>h (by rw[e,Nat.zero_mul]),fun h=>Nat.mul_ne_zero h (Nat.ne_of_gt (pow_pos _))⟩
theorem zp1{ng ng':Bool}{q:Nat}(sc:Int)(h:q≠0->ng=ng'):grD ng q sc=grD ng' q sc:=by unfold grD;rw[zqt (fun e=>h (fun e0=>e (by rw[e0,Nat.zero_mul])))]
theorem zuY{N:Nat}(hN:3000<N){d:Decimal}(hd:VD d){n:Nat}{sc:Int}(h1:1<=n)(h18:n<=18)(hs1: -18<=sc)(hs:sc<=18):
  zkn N (XA d sc) (n:Int) sc=some (grD d.uM (ze0 d n sc) sc,0):=by
 obtain⟨c1,c2,c3⟩:=zsy hd (s:=sc) (by omega) (by omega);rw[zuL hN c1 h1 h18 hs1 hs c2,c3];have e:grD (XA d sc).uM (ze0 d n sc) sc=grD d.uM (ze0 d n sc) sc:=zp1 sc fun h=>ztA (by have:=hd.2.2.2.2.1;omega) (by omega) h
 show some (grD (XA d sc).uM (ze0 d n sc) sc,(0:Int))=_;rw[e]
theorem ziD(d:Decimal)(n:Nat)(sc:Int):ze0 d n sc<10^n:=uAS _ (pow_pos n)
theorem zu6{ng:Bool}{q n:Nat}{sc:Int}(hq:q<10^n)(hn:n<=18)(h1: -18<=sc)(h2:sc<=18):VD (grD ng q sc):=by have h10:(10:Nat)^n<=10^18:=nN (by decide) hn;exact zk4 (by omega) h1 h2
theorem ztG(ng:Bool){q n:Nat}{sc:Int}(hq:q<10^n)(h1: -18<=sc)(h2:sc<=18):ZU (grD ng q sc) n sc/\quo (val (grD ng q sc).uA) (grD ng q sc).uD.toNat sc=q:=by refine⟨(zp0 ng q n h1 h2).2 hq,?_⟩;have hg:=zfS ng q (sc:=sc) (by omega);have hcs:=zP ng (q*10^(-sc).toNat) sc.toNat;show quo (val (canon ng (q*10^(-sc).toNat) sc.toNat).2.1) (((canon ng (q*10^(-sc).toNat) sc.toNat).2.2:Int)).toNat sc=q;rw[mQ];exact zim (by omega) (by omega) (by omega) hg
theorem zrq(s:Shape){n q:Nat}(ng:Bool)(hq:q<10^n)(h1: -18<=s.uD)(h2:s.uD<=18):zmG s n (grD ng q s.uD)=(wr s n ((ng&&decide (q≠0))&&s.uG) (fmt n q),0):=by obtain⟨f1,f2⟩:=ztG ng hq h1 h2;unfold zmG;rw[if_pos f1,f2,ztH]
theorem zty{N:Nat}(hN:3000<N){s:Shape}{n:Nat}(h:NS s n)(hc:chkV s=0)(hp:s.uC.length<=400){d:Decimal}(hd:VD d):
  ztz N d s=some (wr s n (zoJ s n d) (fmt n (ze0 d n s.uD)),0):=by
 have h1:=h.sc1;have h2:=h.sc2;obtain⟨t,e1⟩:=zvk hN hd (s:=s.uD) (by omega) (by omega);unfold ztz;rw[e1,zc];dsimp only;rw[decide_eq_true rfl,nE,cond_false,h.dig,zuY hN hd h.n1 h.n18 h1 h2,zc];dsimp only;rw[decide_eq_true rfl,nE,cond_false,zok hN h hc hp (zu6 (ziD d n s.uD) h.n18 h1 h2),zrq s d.uM (ziD d n s.uD) h1 h2,zc];rfl
end Go.Proofs.C06
end
section
set_option maxRecDepth 100000
namespace Go.Proofs.C06
open Go Go.RowKit Go.Vc Go.Am Go.Dg
structure MS(s:Shape)(z:Nat):Prop where
 chk:chkV s=0
 pic:s.uC.length<=400
 siz:s.uE=(z:Int)
 c0:0<=s.uB
 c5:s.uB<=5
 u0:0<=s.uH
 zle:z<=1048576
 zl:s.uB≠0->z<=400
theorem zlG{s:Shape}(h:chkV s=0):yN s=0:=by
 unfold chkV at h;by_cases hE:yN s=0
 ·exact hE
 ·rw[if_pos hE]at h;exact absurd h hE
theorem Kp{s:Shape}(h:chkV s=0)(hp:s.uC.length<=400)(hc:0<=s.uB)(hu:0<=s.uH):∃z,MS s z:=by
 have hE:=zlG h;have hE':=hE;unfold yN at hE;split at hE
 ·cases hE
 ·rename_i h1;split at hE
  ·cases hE
  ·rename_i h2;split at hE
   ·cases hE
   ·rename_i h3;by_cases h0:s.uB=0
    ·refine⟨s.uE.toNat,h,hp,by omega,hc,by omega,hu,by omega,fun e=>absurd h0 e⟩
    ·have hs:=zte h h0;have hz:0<=sizeV s/\sizeV s<=400:=by
      unfold sizeV;rw[if_neg h0];split
      ·have:szN s.uC<=s.uC.length:=by unfold szN;omega
       omega
      ·repeat' split
       all_goals omega
     refine⟨s.uE.toNat,h,hp,by omega,hc,by omega,hu,by omega,fun _=>by omega⟩
def alw(a b:Int):Bool:=decide ((bits .and .u8 ((Am.zfh (atV [.int .u8 63,.int .u8 15,.int .u8 63,.int .u8 15,.int .u8 61,.int .u8 61] a))/2^b.toNat) 1)=1)
def qT(s t:Shape):Bool:=if s.uB=4/\0<s.uD/\(t.uB=2\/t.uB=3)then false else alw s.uB t.uB
theorem zc2(N:Nat){s t:Shape}(h1:0<=s.uB)(h2:s.uB<=5)(h3:0<=t.uB)(h4:t.uB<=5):Y3 N s t=some (qT s t):=by
 have k1:qo N s t=some (alw s.uB t.uB):=by
  unfold qo;have hn:(ze t.uB&&Nat.ble t.uB.toNat 8)=true:=by unfold ze;rw[decide_eq_true h3,uAu,Nat.ble_eq];omega
  rw[zn.2 ⟨h1,by omega⟩,za,hn,za];rfl
 have k0:∀x:Bool,x=decide (t.uB=2\/t.uB=3)->ZG N x s t=some (qT s t):=by
  intro x hx;unfold ZG qT;rw[k1,zb];by_cases e4:s.uB=4
  ·rw[if_pos e4,zb];by_cases es:0<s.uD
   ·rw[if_pos es];cases x with
    |true=>rw[cond_true,if_pos ⟨e4,es,of_decide_eq_true hx.symm⟩]
    |false=>rw[cond_false,if_neg (fun e=>of_decide_eq_false hx.symm e.2.2)]
   ·rw[if_neg es,if_neg (fun e=>es e.2.1)]
  ·rw[if_neg e4,if_neg (fun e=>e4 e.1)]
 unfold Y3;rw[zb];by_cases e2:t.uB=2
 ·rw[if_pos e2];exact k0 _ (decide_eq_true (.inl e2)).symm
 ·rw[if_neg e2];exact k0 _ (decide_eq_decide.2 ⟨fun e=>.inr e,fun e=>by rcases e with e|e;exact absurd e e2;exact e⟩)
theorem zsT{s t:Shape}(h4:s.uB=4)(h:qT s t=true)(h1:0<=t.uB)(h2:t.uB<=5)(ht:t.uB≠0)(ht4:t.uB≠4)(ht5:t.uB≠5):s.uD<=0:=by
 unfold qT at h;split at h
 ·cases h
 ·rename_i hn;have:t.uB=1\/t.uB=2\/t.uB=3:=by omega
  rcases this with e|e|e
  ·rw[h4,e]at h;exact absurd h (by decide)
  ·apply Classical.byContradiction;intro hs;exact hn ⟨h4,by omega,.inl e⟩
  ·apply Classical.byContradiction;intro hs;exact hn ⟨h4,by omega,.inr e⟩
def qn(s:Shape)(b:uBi):Decimal×Int:=if s.uB=4 then Wk s s.uA.toNat b else if s.uB=5 then zfW s s.uA.toNat s.uD.toNat b else if(Lib.trimS b [32]≠[]/\Digs (Lib.trimS b [32]))/\(Lib.trimS b [32]).length<=62 then nrm false (Lib.trimS b [32]) 0 else(zea,15)
theorem NS.nat{s:Shape}{n:Nat}(h:NS s n):s.uA.toNat=n:=by have:=h.dig;omega
theorem ES.nat{s:Shape}{n sc:Nat}{sg:Bool}(h:ES s n sc sg):s.uA.toNat=n/\s.uD.toNat=sc:=by have:=h.dig;have:=h.scl;omega
theorem zqZ(b cs:uBi):(Lib.trimS b cs).length<=b.length:=by
 have h:∀(p:UInt8->Bool)(l:uBi),(l.dropWhile p).length<=l.length:=fun p l=>(List.dropWhile_sublist p).length_le
 unfold Lib.trimS Lib.trimRightS Lib.trimLeftS;refine nB (h _ _) ?_;rw[List.length_reverse];refine nB (h _ _) ?_;rw[List.length_reverse];exact mK _
theorem zoE{l:uBi}(hd:Digs l)(hl:l.length<=62)(h0:l≠[]):∃d,nrm false l 0=(d,0)/\VD d:=by
 have h1:1<=l.length:=by cases l with|nil=>exact absurd rfl h0|cons _ _=>simp
 have hv:val l<10^l.length:=jW hd;have c1:(canon false (val l*10^(-(0:Int)).toNat) (0:Int).toNat).2.1.length<=62:=by rw[show(-(0:Int)).toNat=0 from rfl,nJ,mR];exact nB (yf h1 hv) hl
 have c2:(canon false (val l*10^(-(0:Int)).toNat) (0:Int).toNat).2.2<=62:=nB (zP _ _ _) (by decide);exact⟨_,WV c1 c2,VD.of c1 c2⟩
theorem zoO{s:Shape}{n:Nat}(h:NS s n){b:uBi}(h0:(Wk s n b).2=0):VD (Wk s n b).1:=by
 unfold Wk at h0⊢;by_cases hr:(YY s n b).2=0
 ·rw[if_pos hr];obtain⟨r1,r2,r3⟩:=zeG h hr;rw[r3];obtain⟨d1,d2⟩:=zow h r1 r2;exact (zoD h d1 d2).1
 ·rw[if_neg hr]at h0;exact absurd h0 hr
theorem zsP{s:Shape}{n sc:Nat}{sg:Bool}(h:ES s n sc sg){b:uBi}(h0:(zfW s n sc b).2=0):VD (zfW s n sc b).1:=by
 have h18:=h.n18;have hsc:=h.scn;have hq:=(zlR h b).2.2;unfold zfW at h0⊢;split at h0
 ·cases h0
 ·rename_i e1;rw[if_neg e1];split at h0
  ·rename_i e2;rw[if_pos e2];exact zoP (n:=n) (by omega) h.n1 hq (by omega)
  ·rename_i e2;rw[if_neg e2];split at h0
   ·rename_i e3;rw[if_pos e3];exact zoP (n:=n) (by omega) h.n1 hq (by omega)
   ·cases h0
theorem zoq{s:Shape}{n:Nat}(h:NS s n):szV s n<=300:=by
 have:=h.n18;unfold szV binW
 repeat' split
 all_goals omega
theorem MS.sz4{s:Shape}{z n:Nat}(h:MS s z)(hn:NS s n):z=szV s n:=by have h1:=h.siz;have h2:=hn.size;omega
theorem zeY{N:Nat}(hN:3000<N){s:Shape}{z:Nat}(h:MS s z)(h0:s.uB≠0){b:uBi}(hb:b.length=z):
  zd0 N (fld s b)=some (qn s b)/\((qn s b).2=0->VD (qn s b).1):=by
 have hz:=h.zl h0;unfold zd0 qn;show cond (decide (s.uB=4)) _ (cond (decide (s.uB=5)) _ _)=_/\_;rw[zb];by_cases h4:s.uB=4
 ·rw[if_pos h4,if_pos h4];obtain⟨n,hn⟩:=zeR h.chk h4 h.u0;have hz:=zoq hn;rw[<-h.sz4 hn]at hz;rw[hn.nat,zol hN hn h.chk h.pic (by omega),zc];exact⟨rfl,zoO hn⟩
 ·rw[if_neg h4,if_neg h4,zb];by_cases h5:s.uB=5
  ·rw[if_pos h5,if_pos h5];obtain⟨n,sc,sg,hn⟩:=zfx h.chk h5;rw[hn.nat.1,hn.nat.2];have:=zs0 hN hn h.chk b;rw[show fld s b=zv1 s b from rfl,this,zc];exact⟨rfl,zsP hn⟩
  ·rw[if_neg h5,if_neg h5];have hl:=zqZ b [32];show bnd (ZI b [32]) _=_/\_;rw[za8 (by omega) (by decide) (by decide),zc,zjm (by omega) (by omega),zc,zf];by_cases hd:Lib.trimS b [32]≠[]/\Digs (Lib.trimS b [32])
   ·rw[if_pos hd,zb];by_cases h62:(Lib.trimS b [32]).length<=62
    ·obtain⟨d,e1,e2⟩:=zoE hd.2 h62 hd.1;rw[if_neg (by omega),if_pos ⟨hd,h62⟩,zbA hN false hd.2 hd.1 (by omega) (by decide) (by decide),zc,e1];exact⟨rfl,fun _=>e2⟩
    ·rw[if_pos (by omega),if_neg (fun e=>h62 e.2)];exact⟨rfl,fun e=>by cases e⟩
   ·rw[if_neg hd,if_neg (fun e=>hd e.1)];exact⟨rfl,fun e=>by cases e⟩
def zev(t:Shape)(d:Decimal):uBi×Int:=if t.uB=5 then((edT t t.uA.toNat d.uM (Y4 d t.uA.toNat t.uD.toNat)).getD [],0)else(wr t t.uA.toNat (zoJ t t.uA.toNat d) (fmt t.uA.toNat (ze0 d t.uA.toNat t.uD)),0)
def lenT(s:Shape):Nat:=s.uA.toNat+(-s.uD).toNat
def ym(s t:Shape)(b:uBi):uBi×Int:=if s.uB≠4\/t.uB=0 then(b,0)else if(Wk s s.uA.toNat b).2≠0 then([],(Wk s s.uA.toNat b).2)else if ZU (Wk s s.uA.toNat b).1 (lenT s) 0 then(fmt (lenT s) (quo (val (Wk s s.uA.toNat b).1.uA) (Wk s s.uA.toNat b).1.uD.toNat 0),0)else([],14)
theorem zrL{N:Nat}(hN:3000<N){s t:Shape}{z:Nat}(h:MS s z)(hsc:s.uB=4->t.uB≠0->s.uD<=0){b:uBi}(hb:b.length=z):zoI N (fld s b) t=some (ym s t b)/\(ym s t b).1.length<=1048576:=by
 have hz:=h.zle;unfold zoI ym;show cond (!decide (s.uB=4)) _ _=_/\_;rw[zf];by_cases h4:s.uB=4
 ·rw[if_pos h4,zb];by_cases t0:t.uB=0
  ·rw[if_pos t0,if_pos (.inr t0)];exact⟨rfl,by rw[hb];exact hz⟩
  ·rw[if_neg t0,if_neg (by rintro(e|e);exact e h4;exact t0 e)];obtain⟨n,hn⟩:=zeR h.chk h4 h.u0;have hz3:=zoq hn;rw[<-h.sz4 hn]at hz3;rw[hn.nat,zol hN hn h.chk h.pic (by omega),zc,zf];by_cases hg:(Wk s n b).2=0
   ·have hs0:=hsc h4 t0;have hs1:=hn.sc1;have h18:=hn.n18;have h1:=hn.n1;have hdg:=hn.dig;have em:jq s.uD 0=0:=by unfold jq;split<;>omega
    have el:(s.uA-s.uD)+jq s.uD 0=((lenT s:Nat):Int):=by unfold lenT;rw[em];omega
    have elt:lenT s=n+(-s.uD).toNat:=by unfold lenT;rw[hn.nat]
    rw[if_pos hg,if_neg (fun e=>e hg)];show chk (inKb .i64 (s.uA-s.uD)) (chk (inKb .i64 ((s.uA-s.uD)+jq s.uD 0)) (bnd (Yc N (Wk s n b).1 ((s.uA-s.uD)+jq s.uD 0) 0) _))=_/\_;rw[el,zg (by omega) (by omega),za,zg (by omega) (by omega),za,WR hN (zoO hn hg) (by omega) (by omega) (by decide) (by decide),zc];refine⟨rfl,?_⟩;split
    ·show(fmt _ _).length<=_;rw[jg];omega
    ·show([]:uBi).length<=_;decide
   ·rw[if_neg hg,if_pos hg];exact⟨rfl,uAR _⟩
 ·rw[if_neg h4,if_pos (.inl h4)];exact⟨rfl,by rw[hb];exact hz⟩
def mvV(s t:Shape)(b:uBi):uBi×Int:=if qT s t=false then([],12)else if s.uB=0 then(fit b t.uE.toNat false,0)else if t.uB=4\/t.uB=5 then(if(qn s b).2≠0 then([],(qn s b).2)else zev t (qn s b).1)else if(ym s t b).2≠0 then([],(ym s t b).2)else if t.uB=3 then(txt t.uC (ym s t b).1,0)else(fit (ym s t b).1 t.uE.toNat t.uL,0)
theorem zum{t:Shape}(h:chkV t=0)(h3:t.uB=3):XW t 3=0:=by unfold XW;rw[if_neg (fun e=>e h),if_neg (fun e=>e h3)]
theorem zrN{N:Nat}(hN:3000<N){s t:Shape}{z z':Nat}(h:MS s z)(h':MS t z'){b:uBi}(hb:b.length=z):JJ N (fld s b) t=some (mvV s t b):=by
 have hz:=h.zle;have hz':=h'.zle;have hS:s.uE.toNat=z:=by have:=h.siz;omega
 have hT:t.uE.toNat=z':=by have:=h'.siz;omega
 have k1:∀x:Bool,qT s t=true->s.uB≠0->x=decide (t.uB=4\/t.uB=5)->Kv N x (fld s b) t=some (mvV s t b):=by
  intro x hal h0 hx;unfold Kv mvV;rw[if_neg (by rw[hal];decide),if_neg h0];cases x with
  |true=>
   have ht:=of_decide_eq_true hx.symm;obtain⟨e1,e2⟩:=zeY hN h h0 hb;rw[cond_true,if_pos ht,e1,zc,zf];by_cases hn:(qn s b).2=0
   ·rw[if_pos hn,if_neg (fun e=>e hn),zb];unfold zev;by_cases h5:t.uB=5
    ·rw[if_pos h5,if_pos h5];obtain⟨n,sc,sg,hes⟩:=zfx h'.chk h5;obtain⟨r,f1,f2⟩:=zf8 hN hes h'.chk (e2 hn);rw[hes.nat.1,hes.nat.2,f2,f1,zc];rfl
    ·rw[if_neg h5,if_neg h5];have h4:t.uB=4:=by omega
     obtain⟨n,hns⟩:=zeR h'.chk h4 h'.u0;rw[hns.nat,zty hN hns h'.chk h'.pic (e2 hn),zc]
   ·rw[if_neg hn,if_pos hn]
  |false=>
   have ht:=of_decide_eq_false hx.symm;obtain⟨e1,e2⟩:=zrL (t:=t) hN h (fun h4 t0=>zsT h4 hal h'.c0 h'.c5 t0 (fun e=>ht (.inl e)) (fun e=>ht (.inr e))) hb;rw[cond_false,if_neg ht,e1,zc,zf];by_cases hn:(ym s t b).2=0
   ·rw[if_pos hn,if_neg (fun e=>e hn),zb];by_cases h3:t.uB=3
    ·have hk:=zum h'.chk h3;have hzz:=h'.zl (by omega);rw[if_pos h3,if_pos h3,zl5 (by omega) h'.pic _ (fun _=>by have:=h'.siz;omega),if_neg (fun e=>e hk),zc]
    ·rw[if_neg h3,if_neg h3,h'.siz,zo1 N (by omega) hz',zc,mQ]
   ·rw[if_neg hn,if_pos hn]
 have k0:ZF N false (fld s b) t=some (mvV s t b):=by
  unfold ZF;rw[cond_false];show cond (!decide ((b.length:Int)=s.uE)) _ (bnd (Y3 N s t) _)=_;rw[decide_eq_true (by rw[hb,h.siz]),nE,cond_false,zc2 N h.c0 h.c5 h'.c0 h'.c5,zc];cases hal:qT s t with
  |false=>rw[Bool.not_false,cond_true];unfold mvV;rw[if_pos hal]
  |true=>
   rw[nE,cond_false];show cond (decide (s.uB=0)) (bnd (zqv N b t.uE false) _) _=_;rw[zb];by_cases h0:s.uB=0
   ·rw[if_pos h0,h'.siz,zo1 N (by omega) hz',zc];unfold mvV;rw[if_neg (by rw[hal];decide),if_pos h0,hT]
   ·rw[if_neg h0,zb];by_cases h4:t.uB=4
    ·rw[if_pos h4];exact k1 true hal h0 (decide_eq_true (.inl h4)).symm
    ·rw[if_neg h4];exact k1 _ hal h0 (decide_eq_decide.2 ⟨fun e=>.inr e,fun e=>by rcases e with e|e;exact absurd e h4;exact e⟩)
 unfold JJ;show bnd (qY N s) _=_;rw[zS (by omega) h.pic,h.chk,zc,decide_eq_true rfl,nE,cond_false,zS (by omega) h'.pic,h'.chk,zc,decide_eq_true rfl,nE];exact k0
end Go.Proofs.C06
end
section
set_option maxRecDepth 100000
namespace Go.Proofs.C06
open Go Go.RowKit Go.Vc Go.Am Go.Dg
theorem ziE:qI 4000=some true:=by kernel_rfl
def tx(c:Int)(p:uBi)(just:Bool):Shape:=Shape.mk c 0 p 0 0 false false false just false (p.length:Int)
theorem zoM{c:Int}{p:uBi}(hpar:parS p=(tx c p false,0))(hne:p≠[])(hl:p.length<=80)(hsym:∀x∈p,syms.contains x=true)(hc:1<=c/\c<=3)(hsz:(tx c p false).uE=sizeV (tx c p false)):Good p (tx c p false) where
 par:=hpar
 ne:=hne
 len:=hl
 sym:=hsym
 pic:=rfl
 cat:=by show 1<=c/\c<=5;omega
 use:=rfl
 dig:=by show(0:Int)<=18;decide
 num:=fun h=>by have h:c=4:=h;omega
 sca:=by show(0:Int)<=18;decide
 led:=rfl
 sep:=rfl
 jus:=rfl
 bla:=rfl
 siz:=hsz
theorem zr3{m:Nat}(h1:1<=m)(h2:m<=80):Good (List.replicate m 65) (tx 1 (List.replicate m 65) false)/\Good (List.replicate m 88) (tx 2 (List.replicate m 88) false):=by
 have hl:∀c:UInt8,(List.replicate m c).length=m:=fun c=>mN
 have hne:∀c:UInt8,List.replicate m c≠[]:=fun c e=>by have:=congrArg List.length e;rw[hl]at this;simp at this;omega
 have hsz:∀(c:UInt8)(k:Int),c≠86->(k=1\/k=2)->(tx k (List.replicate m c) false).uE=sizeV (tx k (List.replicate m c) false):=fun c k hc hk=>by
  unfold sizeV;rw[if_neg (show¬(tx k (List.replicate m c) false).uB=0 from fun e=>by have e:k=0:=e;omega),if_pos (show(tx k (List.replicate m c) false).uB≠4 from fun e=>by have e:k=4:=e;omega)];unfold szN;show((List.replicate m c).length:Int)=(((List.replicate m c).length-(List.replicate m c).count 86:Nat):Int)
  rw[uAP.2 (fun hm=>hc (uAU hm).symm),Nat.sub_zero]
 have cn:∀(set:uBi)(c:UInt8),set.contains c=true->cnt set (List.replicate m c)=(List.replicate m c).length:=fun set c h=>zcF fun x hx=>by rw[uAU hx];exact h
 refine⟨zoM ?_ (hne _) (by rw[hl];exact h2) (fun c hc=>by rw[uAU hc];decide) (by decide) (hsz 65 1 (by decide) (.inl rfl)),zoM ?_ (hne _) (by rw[hl];exact h2) (fun c hc=>by rw[uAU hc];decide) (by decide) (hsz 88 2 (by decide) (.inr rfl))⟩
 ·unfold parS zbZ;rw[if_pos (cn [65] 65 (by decide))];rfl
 ·unfold parS zbZ;have k1:¬cnt [65] (List.replicate m (88:UInt8))=(List.replicate m (88:UInt8)).length:=by
   obtain⟨k,rfl⟩:∃k,m=k+1:=⟨m-1,by omega⟩
   rw[nK,j1,if_neg (by decide),mJ];omega
  have k2:¬(List.replicate m (88:UInt8)).countP zpX=0:=by
   obtain⟨k,rfl⟩:∃k,m=k+1:=⟨m-1,by omega⟩
   rw[nK,List.countP_cons_of_pos (by rfl)];omega
  rw[if_neg k1,if_neg k2,if_pos (cn [65,88,57] 88 (by decide))];rfl
theorem zue{c:Int}{p:uBi}(hg:Good p (tx c p false))(hc:c=1\/c=2)(just:Bool):MS (tx c p just) p.length:=by
 have hpar:=zhs hg;have hl:=hg.len;have hs:(p.length:Int)=sizeV (tx c p false):=hg.siz;have hs':(p.length:Int)=sizeV (tx c p just):=hs;refine⟨?_,by show p.length<=400;omega,rfl,by show 0<=c;omega,by show c<=5;omega,by show(0:Int)<=0;decide,by omega,fun _=>by omega⟩;have e1:yN (tx c p just)=0:=by unfold yN tx;dsimp only;rw[if_neg (by omega),if_neg (by omega),if_neg (by omega)]
 unfold chkV;rw[if_neg (fun k=>k e1),if_neg (show¬(tx c p just).uB=0 from fun e=>by have e:c=0:=e;omega)];unfold zdC;rw[show(tx c p just).uC=p from rfl,hpar];unfold XR;have n4:c≠4:=by omega
 simp only[tx,ne_eq,not_true_eq_false,if_false,or_self,decide_false,nF,false_and,not_false_eq_true,n4];rw[if_neg (by rintro⟨_,e1,e2⟩;omega)];exact if_pos hs'
def gr(n:Nat):Shape:=Shape.mk 0 0 [] 0 0 false false false false false (n:Int)
theorem zu5{n:Nat}(h:n<=1000):MS (gr n) n:=by
 refine⟨?_,uAR _,rfl,Int.le_refl 0,show(0:Int)<=5 by decide,Int.le_refl 0,by omega,fun e=>absurd rfl e⟩;have e1:yN (gr n)=0:=by unfold yN gr;dsimp only;rw[if_neg (by omega),if_neg (by omega),if_neg (by omega)]
 have e2:zc8 (gr n):=⟨rfl,rfl,rfl,rfl,rfl,rfl,rfl,rfl,rfl⟩
 unfold chkV;rw[if_neg (fun k=>k e1),if_pos (show(gr n).uB=0 from rfl),if_pos e2]
theorem zwl(l:uBi):shT (3::l)=tx 3 (picT (3::l)) false:=by
 unfold shT zfP;rw[if_neg]
 ·rfl
 ·intro h;have:=zju h 66 (by unfold picT;simp[sy6]);exact absurd this (by decide)
theorem zv9{l:uBi}(hl:l.length<=19):MS (tx 3 (picT (3::l)) false) (picT (3::l)).length:=by have hg:=zp2 (l:=3::l) (by simpa using hl);rw[zwl]at hg;have:=hg.len;exact⟨zk5 hg,by show(picT _).length<=400;omega,rfl,show(0:Int)<=3 by decide,show(3:Int)<=5 by decide,Int.le_refl 0,by omega,fun _=>by omega⟩
structure FX(x:F_64):Prop where
 k0:0<=x.vQ
 d0:0<=x.vT
 d1:x.vT<=255
 p0:0<=x.vU
 p1:x.vU<=255
 f0:0<=x.vV
 f1:x.vV<=255
 s0:0<=x.wC
 o0:0<=x.wD
 w0:0<=x.wE
 m0:0<=x.wF
 n0:0<=x.wG
 t0:0<=x.wH
 a0:0<=x.wI
 ins:∀v∈x.wK,0<=v/\v<=65535
def fF(x:F_64):F:=F.mk x.vT x.vU x.vV x.vX x.wL
def fE(x:F_64):E:=E.mk x.wC x.wD x.wE x.wF x.wG x.wH x.wI x.wK x.wM
theorem zbP{N:Nat}{sym:UInt8}{x:F_64}{b1:Shape}{c:Int}{m:Nat}(hm:m<=1000):∀(k i:Nat),i<=m->m-i<k->
  QH N k [sym] (i:Int) x b1 (Shape.mk c 0 (List.replicate i sym) 0 0 false false false false false (m:Int))=some (tx c (List.replicate m sym) x.uL)
 |0,i,_,hk=>by omega
 |k+1,i,hi,hk=>by
  show K9 N (QH N k) [sym] _ x b1 _=_;unfold K9;dsimp only;rw[zb];by_cases h:i<m
  ·rw[if_pos (by omega),qR (by simp;omega),za,zg (by omega) (by omega),za,<-List.replicate_succ',show(i:Int)+1=((i+1:Nat):Int)by omega];exact zbP hm k (i+1) (by omega) (by omega)
  ·have:i=m:=by omega
   subst this;rw[if_neg (by omega)];unfold tx;rw[mN]
theorem zuH{c:UInt8}:atS ([[88],[65],[57],[66],[48],[47]]:List uBi) ((c.toNat:Int)%6)=[sy6 c]:=by
 unfold atS sy6;rw[show((c.toNat:Int)%6).toNat=c.toNat%6 by omega];have h:c.toNat%6<6:=uAS _ (by decide);generalize c.toNat%6=j at h;rcases j with _|_|_|_|_|_|j
 all_goals first|rfl|omega
theorem zbO{N:Nat}{x:F_64}{b1:Shape}{n:Nat}(hn:n<=x.uO.length)(h24:n<=24)(z:Int):∀(k i:Nat),i<=min n 12->min n 12-i<k->
  QG N k (n:Int) (i:Int) x b1 (Shape.mk 3 0 (picT (3::x.uO.take i)) 0 0 false false false false false z)=some (tx 3 (picT (3::x.uO.take (min n 12))) false)
 |0,i,_,hk=>by omega
 |k+1,i,hi,hk=>by
  show K8 N (QG N k) _ _ x b1 _=_;unfold K8;dsimp only;have hlen:(picT (3::x.uO.take i)).length<=100:=by unfold picT;simp;omega
  rw[zb];by_cases h:i<min n 12
  ·have hit:i<x.uO.length:=by omega
   have hnn:(ze (byteAt x.uO (i:Int))&&decide ((0:Int)<6))=true:=by show(ze (((x.uO.getD i 0).toNat:Nat):Int)&&_)=true;unfold ze;rw[decide_eq_true (by omega)];rfl
   have hb:byteAt x.uO (i:Int)=(((x.uO.getD i 0).toNat:Nat):Int):=rfl;rw[if_pos (by omega),zb,if_pos (by omega),zn.2 ⟨by omega,by omega⟩,za];have hnn':(ze (byteAt x.uO (i:Int))&&decide (0<6))=true:=hnn;rw[hnn',za,hb,zn.2 ⟨by omega,by show _<((6:Nat):Int);omega⟩,za,za,zuH,qR (by simp;omega),za,zg (by omega) (by omega),za];have e:picT (3::x.uO.take i)++[sy6 (x.uO.getD i 0)]=picT (3::x.uO.take (i+1)):=by rw[zmn hit];unfold picT;simp
   rw[e,show(i:Int)+1=((i+1:Nat):Int)by omega];exact zbO hn h24 z k (i+1) (by omega) (by omega)
  ·have:i=min n 12:=by omega
   subst this;by_cases h2:(((min n 12:Nat):Nat):Int)<(n:Int)
   ·rw[if_pos h2,zb,if_neg (by omega)];rfl
   ·rw[if_neg h2];rfl
theorem zrJ(a b:Nat):Wh (a:Int) (b:Int)=((min a b:Nat):Int):=by unfold Wh;split<;>omega
theorem zqI{N:Nat}(hN:3000<N){x:F_64}(hx:FX x):∃s z,zcP N x=some s/\MS s z/\z<=400/\s.uB=x.vQ%6/\(s.uB=3->z=s.uC.length)/\
  (s.uB=4->YG N (fF x)=some s)/\(s.uB=5->Xu N (fE x)=some s):=by
 have hk:=hx.k0;obtain⟨k,hk6⟩:=WZ (k:=6) hk (by decide);have hlt:k<6:=by omega
 have hn:Wh ((x.uO).length:Int) 24=((min x.uO.length 24:Nat):Int):=zrJ _ 24;obtain⟨n,hn'⟩:∃n,n=min x.uO.length 24:=⟨_,rfl⟩
 rw[<-hn']at hn;have hn24:n<=24:=by omega
 have hm:jq (n:Int) 1=((max n 1:Nat):Int):=by unfold jq;split<;>omega
 have key:∀t:Bool,t=decide ((k:Int)=1\/(k:Int)=2)->∃s z,QJ N (n:Int) (k:Int) t x z0 (Shape.mk (k:Int) 0 [] 0 0 false false false false false (n:Int))=some s/\MS s z/\z<=400/\s.uB=(k:Int)/\(s.uB=3->z=s.uC.length)/\
   (s.uB=4->YG N (fF x)=some s)/\(s.uB=5->Xu N (fE x)=some s):=by
  intro t ht;unfold QJ;dsimp only;have txt:∀(c:Int)(sym:UInt8),(c=1/\sym=65\/c=2/\sym=88)->∃s z,QI N (n:Int) [sym] x z0 (Shape.mk c 0 [] 0 0 false false false false false (n:Int))=some s/\MS s z/\z<=400/\s.uB=c/\(s.uB=3->z=s.uC.length)/\
    (s.uB=4->YG N (fF x)=some s)/\(s.uB=5->Xu N (fE x)=some s):=by
   intro c sym hc;have hg:=zr3 (m:=max n 1) (by omega) (by omega);refine⟨tx c (List.replicate (max n 1) sym) x.uL,max n 1,?_,?_,?_,rfl,fun e=>?_,fun e=>?_,fun e=>?_⟩
   ·unfold QI;dsimp only;rw[hm];exact zbP (by omega) N 0 (by omega) (by omega)
   ·rcases hc with⟨rfl,rfl⟩|⟨rfl,rfl⟩
    ·have:=zue hg.1 (.inl rfl) x.uL;rwa [mN]at this
    ·have:=zue hg.2 (.inr rfl) x.uL;rwa [mN]at this
   ·omega
   ·have e:c=3:=e;omega
   ·have e:c=4:=e;omega
   ·have e:c=5:=e;omega
  cases t with
  |true=>
   have ht:=of_decide_eq_true ht.symm;rw[cond_true,zb];by_cases h2:(k:Int)=2
   ·rw[if_pos h2,h2];exact txt 2 88 (.inr ⟨rfl,rfl⟩)
   ·rw[if_neg h2];have h1:(k:Int)=1:=by omega
    rw[h1];exact txt 1 65 (.inl ⟨rfl,rfl⟩)
  |false=>
   have ht:=of_decide_eq_false ht.symm;rw[cond_false,zb];by_cases h3:(k:Int)=3
   ·rw[if_pos h3,h3];have hl3:=zbO (N:=N) (x:=x) (b1:=z0) (n:=n) (by omega) hn24 (n:Int) N 0 (by omega) (by omega);refine⟨tx 3 (picT (3::x.uO.take (min n 12))) false,(picT (3::x.uO.take (min n 12))).length,hl3,zv9 (by rw[mI];omega),?_,rfl,fun _=>rfl,(fun e=>by cases e),(fun e=>by cases e)⟩;unfold picT;simp;omega
   ·rw[if_neg h3,zb];by_cases h4:(k:Int)=4
    ·rw[if_pos h4,h4];have hf:=zhy (N:=N) hN (x:=fF x) (dg:=x.vT.toNat) (fm:=x.vV.toNat) (pt:=x.vU.toNat) (by have:=hx.d0;show x.vT=_;omega) (by have:=hx.f0;show x.vV=_;omega) (by have:=hx.f1;omega) (by have:=hx.p0;show x.vU=_;omega) (by have:=hx.p1;omega) (by have:=hx.d1;omega);have h1:1<=x.vT.toNat%18+1:=by omega
     have h2:x.vT.toNat%18+1<=18:=by omega
     obtain⟨g1,g2,g3⟩:=zra (pt:=x.vU.toNat) (fm:=x.vV.toNat) h1 h2;obtain⟨z,hz⟩:=Kp g2 g3 (by rw[g1.cat];decide) (by rcases g1.use with e|e|e<;>rw[e]<;>decide);have hcat:=g1.cat;refine⟨shX (x.vT.toNat%18+1) x.vU.toNat x.vV.toNat,z,?_,hz,hz.zl (by rw[hcat];decide),hcat,(fun e=>by rw[hcat]at e;cases e),fun _=>hf,(fun e=>by rw[hcat]at e;cases e)⟩;show bnd (YG N (fF x)) _=_;rw[hf,zc]
    ·rw[if_neg h4,zb];by_cases h5:(k:Int)=5
     ·rw[if_pos h5,h5];obtain⟨sg,w,mn,ni,pt,pa,hp⟩:=zui (x:=fE x) hx.s0 hx.o0 hx.w0 hx.m0 hx.n0 hx.t0 hx.a0;obtain⟨s,n',sc,g,e1,e2,e3,e4,e5⟩:=zhD hN hp hx.ins;have hcat:=e3.cat;have hu:s.uH=0:=by
       have:=zlG e2;apply Classical.byContradiction;intro hu;unfold chkV at e2;rw[if_neg (fun h=>h this),if_neg (by omega)]at e2;unfold zdC at e2;split at e2
       ·rename_i hh;exact hh e2
       ·split at e2
        ·cases e2
        ·unfold XR at e2;split at e2
         ·cases e2
         ·rw[if_pos ⟨hu,by omega⟩]at e2;cases e2
      obtain⟨z,hz⟩:=Kp e2 (by omega) (by rw[hcat];decide) (by omega);refine⟨s,z,?_,hz,hz.zl (by rw[hcat];decide),hcat,(fun e=>by rw[hcat]at e;cases e),(fun e=>by rw[hcat]at e;cases e),fun _=>e1⟩;show bnd (Xu N (fE x)) _=_;rw[e1,zc]
     ·have hk0:k=0:=by omega
      subst hk0;rw[if_neg h5];exact⟨gr n,n,rfl,zu5 (by omega),by omega,rfl,(fun e=>by cases e),(fun e=>by cases e),(fun e=>by cases e)⟩
 have hnn:(ze x.vQ&&decide (0<6))=true:=by unfold ze;rw[decide_eq_true hk];rfl
 unfold zcP;rw[hnn,za,hn,hk6,zb];by_cases h1:(k:Int)=1
 ·rw[if_pos h1];exact key _ (decide_eq_decide.2 ⟨fun e=>.inl e,fun _=>h1⟩)
 ·rw[if_neg h1];exact key _ (decide_eq_decide.2 ⟨fun e=>.inr e,fun e=>by rcases e with e|e;exact absurd e h1;exact e⟩)
end Go.Proofs.C06
end
section
set_option maxRecDepth 100000
namespace Go.Proofs.C06
open Go Go.RowKit Go.Vc Go.Am Go.Dg
theorem ztQ{N:Nat}(hN:3000<N){x:F}(h1:0<=x.uA)(h2:x.uA<=255)(h3:0<=x.uN)(h4:x.uN<=255)(h5:0<=x.uP)(h6:x.uP<=255):
  ∃s n ng l,YG N x=some s/\NS s n/\chkV s=0/\s.uC.length<=400/\Digs l/\l.length=n/\(ng=true->s.uG=true/\val l≠0)/\fOf N x=some (fld s (wr s n ng l)):=by
 have hsh:=zhy (N:=N) hN (x:=x) (dg:=x.uA.toNat) (fm:=x.uP.toNat) (pt:=x.uN.toNat) (by omega) (by omega) (by omega) (by omega) (by omega) (by omega);obtain⟨n,hn⟩:∃n,n=x.uA.toNat%18+1:=⟨_,rfl⟩
 obtain⟨l,ht,hd,hl⟩:=zlb (N:=N) hN (x:=x) h1;rw[<-hn]at hsh hl;obtain⟨hns,hc,hp⟩:=zra (n:=n) (pt:=x.uN.toNat) (fm:=x.uP.toNat) (by omega) (by omega);generalize shX n x.uN.toNat x.uP.toNat=s at hsh hns hc hp;have h18:=hns.n18;have hsc1:=hns.sc1;have hsc2:=hns.sc2;obtain⟨ng,hng⟩:∃ng,ng=(x.uM&&(s.uG&&decide (val l≠0))):=⟨_,rfl⟩
 refine⟨s,n,ng,l,hsh,hns,hc,hp,hd,hl,?_,?_⟩
 ·intro e;rw[hng]at e;simp only[mF,decide_eq_true_eq]at e;exact e.2
 ·unfold fOf;rw[hsh,zc,ht,zc,zpT hN hns hd hl x.uM,zc,<-hng];rfl
end Go.Proofs.C06
end
section
set_option maxRecDepth 100000
namespace Go.Proofs.C06
open Go Go.RowKit Go.Vc Go.Am Go.Dg
end Go.Proofs.C06
end
section
set_option maxRecDepth 100000
namespace Go.Proofs.C06
open Go Go.RowKit Go.Vc Go.Am Go.Dg
theorem zhR{N:Nat}{x:F_64}{s:Shape}{z:Nat}(hs:s.uE=(z:Int))(hz:z<=1000000):∀(k i:Nat)(L:uBi),i<=z->z-i<k->L.length=z->
  ∃b,zcQ N k (i:Int) x 0 0 [] 0 0 false false false false false 0 s s.uB s.uH s.uC s.uA s.uD s.uG s.uJ s.uK s.uL s.uI s.uE L=some (fld s b)/\b.length=z
 |0,i,_,_,hk,_=>by omega
 |k+1,i,L,hi,hk,hL=>by
  show∃b,zf7 N (zcQ N k) _ x 0 0 [] 0 0 false false false false false 0 s _ _ _ _ _ _ _ _ _ _ _ L=some (fld s b)/\_;unfold zf7;rw[hs,zb];by_cases h:i<z
  ·have hi1:(i:Int)+1=((i+1:Nat):Int):=by omega
   have ih:∀L':uBi,L'.length=z->∃b,zcQ N k ((i+1:Nat):Int) x 0 0 [] 0 0 false false false false false 0 s s.uB s.uH s.uC s.uA s.uD s.uG s.uJ s.uK s.uL s.uI (z:Int) L'=some (fld s b)/\b.length=z:=fun L' hL'=>by have:=zhR (N:=N) (x:=x) hs hz k (i+1) L' (by omega) (by omega) hL';rwa [hs]at this
   rw[if_pos (by omega),zn.2 ⟨by omega,by omega⟩,za];rw[show chk (true&&inKb .u8 32)=chk (true:Bool) (α:=Field)from rfl,za,zb];by_cases ht:0<(x.uO.length:Int)
   ·have hnn:(ze (i:Int)&&decide (0<(x.uO.length:Int)))=true:=by unfold ze;rw[decide_eq_true ht,decide_eq_true (by omega)];rfl
    have hmod:(i:Int)% (x.uO.length:Int)=((i%x.uO.length:Nat):Int):=by omega
    have hml:i%x.uO.length<x.uO.length:=uAS _ (by omega);have hbt:byteAt x.uO ((i%x.uO.length:Nat):Int)=(((x.uO.getD (i%x.uO.length) 0).toNat:Nat):Int):=rfl;rw[if_pos ht,hnn,za,hmod,zn.2 ⟨by omega,by omega⟩,za,uAV,zn.2 ⟨by omega,by omega⟩,za,hbt,jX,uAj,za,zg (by omega) (by omega),za,hi1];exact ih _ (by rw[uAV,uAV,hL])
   ·rw[if_neg ht,zg (by omega) (by omega),za,hi1];exact ih _ (by rw[uAV,hL])
  ·have:i=z:=by omega
   subst this;rw[if_neg (by omega)];exact⟨L,by rw[<-hs];rfl,hL⟩
theorem zvz{N:Nat}(hN:3000<N){x:F_64}(hx:FX x):∃s z b,zcP N x=some s/\MS s z/\z<=400/\s.uB=x.vQ%6/\FOf N x=some (fld s b)/\b.length=z:=by
 obtain⟨s,z,e1,hm,hz,hc,_,h4,h5⟩:=zqI hN hx;have hS:=hm.siz;unfold FOf;rw[e1];by_cases c4:s.uB=4
 ·obtain⟨s',n,ng,l,f1,hs,hchk,hp,hd,hl,hng,f2⟩:=ztQ hN (x:=fF x) hx.d0 hx.d1 hx.p0 hx.p1 hx.f0 hx.f1;rw[h4 c4]at f1;cases f1;refine⟨s,z,wr s n ng l,rfl,hm,hz,hc,?_,?_⟩
  ·rw[zc,decide_eq_true c4,cond_true];show bnd (fOf N (fF x)) _=_;rw[f2,zc]
  ·rw[(zrn hs hd hl hng).2,hm.sz4 hs]
 ·by_cases c5:s.uB=5
  ·obtain⟨sg,w,mn,ni,pt,pa,hp⟩:=zui (x:=fE x) hx.s0 hx.o0 hx.w0 hx.m0 hx.n0 hx.t0 hx.a0;obtain⟨s',n,sc,g,f1,f2,hES,h12,f5⟩:=zhD hN hp hx.ins;rw[h5 c5]at f1;cases f1;obtain⟨l,e2,hld,hll⟩:=zlb hN (x:=fF x) hx.d0;obtain⟨d1,d2,d3⟩:=zv2 hld h12;have hsc:=hES.scn;have hn1:=hES.n1;have hll2:l.length<=18:=by rw[hll];have:=uAS (fF x).uA.toNat (show 0<18 by decide);omega
   generalize hds:(l++qw).take n=ds at d1 d2;have hq:val ds<10^n:=by have:=jW d1;rwa [d2]at this
   refine⟨s,z,zlu s (fmt n (val ds)) (x.vX&&decide (val ds≠0)),rfl,hm,hz,hc,?_,?_⟩
   ·rw[zc,decide_eq_false c4,cond_false,decide_eq_true c5,cond_true];show bnd (zhx N (fF x)) _=_;have htk:jl (l++qw) (n:Int)=ds:=hds;rw[e2,zc];show chk (zO l qw) (chk (zj 0 s.uA (l++qw).length) (bnd (zch N x.vX (jl (l++qw) s.uA) s.uD) _))=_;rw[qR (by show _+12<=_;omega),za,hES.dig,d3,za,htk,hES.scl,zuw hN x.vX d1 (by omega) (by omega),zc,zsZ hN hES f2 x.vX hq,zc];rw[<-hES.dig,<-hES.scl];rfl
   ·have:=zfJ hES (yd n (val ds)) (jg n (val ds)) (x.vX&&decide (val ds≠0));omega
  ·obtain⟨b,g1,g2⟩:=zhR (N:=N) (x:=x) hS (by omega) N 0 (List.replicate z 0) (uAR _) (by omega) mN;refine⟨s,z,b,rfl,hm,hz,hc,?_,g2⟩;rw[zc,decide_eq_false c4,cond_false,decide_eq_false c5,cond_false];have hrep:(List.replicate s.uE.toNat (0:UInt8))=List.replicate z 0:=by rw[hS,mQ]
   have hmk:(Wg 1 s.uE&&decide (s.uE=s.uE))=true:=by rw[hS];exact zuk (by omega)
   rw[hmk,za,hrep];exact g1
def zD:Decimal:=Decimal.mk false [48] 0
theorem zud:VD zD:=by have:=VD.of (neg:=false) (v:=0) (s:=0) (by decide) (by decide);exact this
theorem zt7{n:Nat}(c:UInt8)(hn:n<=100000000):zgJ ([((c.toNat:Nat):Int)].map toByte) (n:Int)=some (List.replicate n c):=by
 have e:[((c.toNat:Nat):Int)].map toByte=[c]:=by show[toByte _]=[c];rw[jD]
 rw[e];show chk (decide ((0:Int)<=(n:Int))&&decide ((n:Int)<=140737488355328)) (some (List.replicate ((n:Int)).toNat c))=_;rw[decide_eq_true (by omega),decide_eq_true (by omega),mQ];rfl
theorem zkL{N n:Nat}(c:UInt8)(hn:n<=100000000):zeX N (n:Int) ((c.toNat:Nat):Int)=some (List.replicate n c,((c.toNat:Nat):Int)):=by unfold zeX;rw[jX,uAj,za,zt7 c hn,zc]
def rpV(s:Shape)(c:UInt8):uBi×Int:=if s.uB=4\/s.uB=5 then(if c≠48 then([],12)else if s.uB=5 then((edT s s.uA.toNat false (Y4 zD s.uA.toNat s.uD.toNat)).getD [],0)else zmG s s.uA.toNat zD)else if s.uB=3 then(txt s.uC (List.replicate s.uC.length c),0)else(List.replicate s.uE.toNat c,0)
theorem zmY{N:Nat}(hN:3000<N){s:Shape}{z:Nat}(h:MS s z)(c:UInt8):Z1 N ((c.toNat:Nat):Int) s=some (rpV s c):=by
 have hz:=h.zle;have hS:s.uE.toNat=z:=by have:=h.siz;omega
 have hp:=h.pic;have k0:∀t:Bool,t=decide (s.uB=4\/s.uB=5)->JI N s.uB t ((c.toNat:Nat):Int) s=some (rpV s c):=by
  intro t ht;unfold JI rpV;cases t with
  |true=>
   have ht:=of_decide_eq_true ht.symm;rw[cond_true,if_pos ht,zf];by_cases h48:c=48
   ·subst h48;rw[if_pos (show(((48:UInt8).toNat:Nat):Int)=48 from rfl),if_neg (fun e=>e rfl),zb];by_cases h5:s.uB=5
    ·obtain⟨n,sc,sg,hes⟩:=zfx h.chk h5;obtain⟨r,f1,f2⟩:=zf8 hN hes h.chk zud;have f1:edT s n false (Y4 zD n sc)=some r:=f1;have f2:zbQ N (Decimal.mk false [48] 0) s=some (r,0):=f2;rw[if_pos h5,if_pos h5,zup,zc,f2,zc,hes.nat.1,hes.nat.2,f1];rfl
    ·have h4:s.uB=4:=by omega
     obtain⟨n,hns⟩:=zeR h.chk h4 h.u0;have f2:zpl N (Decimal.mk false [48] 0) s=some (zmG s n zD):=zok hN hns h.chk h.pic zud;rw[if_neg h5,if_neg h5,zup,zc,f2,zc,hns.nat]
   ·have:¬(((c.toNat:Nat):Int)=48):=fun e=>h48 ((Zd c 48 (by decide)).1 e)
    rw[if_neg this,if_pos h48]
  |false=>
   have ht:=of_decide_eq_false ht.symm;rw[cond_false,if_neg ht,zb];by_cases h3:s.uB=3
   ·have hk:=zum h.chk h3;have hzz:=h.zl (by omega);rw[if_pos h3,if_pos h3,zkL c (by omega),zc,zl5 (by omega) h.pic _ (fun _=>by have:=h.siz;omega),if_neg (fun e=>e hk),zc]
   ·rw[if_neg h3,if_neg h3,h.siz,zkL c (by omega),zc,clip_is,zc,mQ]
 unfold Z1;rw[zS (by omega) h.pic,h.chk,zc,decide_eq_true rfl,nE,cond_false,zb];by_cases h4:s.uB=4
 ·rw[if_pos h4];exact k0 _ (decide_eq_decide.2 ⟨fun e=>.inl e,fun _=>h4⟩)
 ·rw[if_neg h4];exact k0 _ (decide_eq_decide.2 ⟨fun e=>.inr e,fun e=>by rcases e with e|e;exact absurd e h4;exact e⟩)
theorem zom:∀(p b:uBi),(txt p b).length=p.length
 |[],_=>rfl
 |c::p,b=>by unfold txt;split<;>rw[mJ,mJ,zom p]
theorem zwg(n sc:Nat):Y4 zD n sc=0:=by
 unfold Y4 zD;have:quo (val (Decimal.mk false [48] 0).uA) (Decimal.mk false [48] 0).uD.toNat (sc:Int)=0:=by unfold quo;rw[show val (Decimal.mk false [48] 0).uA=0 from rfl,Nat.zero_mul,Nat.zero_div]
 rw[this,Nat.zero_mod]
theorem zvV(n:Nat){sc:Int}:ZU zD n sc/\quo (val zD.uA) zD.uD.toNat sc=0:=by
 have hq:quo (val zD.uA) zD.uD.toNat sc=0:=by unfold quo;rw[show val zD.uA=0 from rfl,Nat.zero_mul,Nat.zero_div]
 refine⟨⟨?_,?_⟩,hq⟩
 ·unfold exact;rw[show val zD.uA=0 from rfl,Nat.zero_mod]
 ·rw[hq];exact pow_pos n
theorem zuJ{s:Shape}{z:Nat}(h:MS s z)(h3:s.uB=3->z=s.uC.length){c:UInt8}(hc:¬((s.uB=4\/s.uB=5)/\c≠48)):(rpV s c).2=0/\(rpV s c).1.length=z:=by
 have hS:s.uE.toNat=z:=by have:=h.siz;omega
 unfold rpV;by_cases h45:s.uB=4\/s.uB=5
 ·rw[if_pos h45,if_neg (fun e=>hc ⟨h45,e⟩)];by_cases h5:s.uB=5
  ·obtain⟨n,sc,sg,hes⟩:=zfx h.chk h5;rw[if_pos h5,hes.nat.1,hes.nat.2,zwg,zi7 hes false (pow_pos n)];refine⟨rfl,?_⟩;have:=zfJ hes (yd n 0) (jg n 0) (false&&decide ((0:Nat)≠0));show(zlu s (fmt n 0) (false&&decide ((0:Nat)≠0))).length=z;have:=h.siz;omega
  ·have h4:s.uB=4:=by omega
   obtain⟨n,hns⟩:=zeR h.chk h4 h.u0;obtain⟨f1,f2⟩:=zvV n (sc:=s.uD);rw[if_neg h5,hns.nat];unfold zmG;rw[if_pos f1,f2];refine⟨rfl,?_⟩;show(wr s n (false&&s.uG) (fmt n 0)).length=z;rw[(zrn hns (yd n 0) (jg n 0) (fun e=>by cases e)).2,h.sz4 hns]
 ·rw[if_neg h45];by_cases c3:s.uB=3
  ·rw[if_pos c3];exact⟨rfl,by rw[zom];exact (h3 c3).symm⟩
  ·rw[if_neg c3];exact⟨rfl,by rw[mN,hS]⟩
end Go.Proofs.C06
end
section
set_option maxRecDepth 100000
namespace Go.Proofs.C06
open Go Go.RowKit Go.Vc Go.Am Go.Dg
theorem zmq{t:Shape}{z:Nat}(h:MS t z)(h45:t.uB=4\/t.uB=5){d:Decimal}(_hd:VD d):(zev t d).2=0/\(zev t d).1.length=z:=by
 unfold zev;by_cases h5:t.uB=5
 ·obtain⟨n,sc,sg,hes⟩:=zfx h.chk h5;have hq:Y4 d n sc<10^n:=uAS _ (pow_pos n);rw[if_pos h5,hes.nat.1,hes.nat.2,zi7 hes d.uM hq];have:=zfJ hes (yd n (Y4 d n sc)) (jg n (Y4 d n sc)) (d.uM&&decide (Y4 d n sc≠0));have:=h.siz;exact⟨rfl,by show(zlu t (fmt n (Y4 d n sc)) (d.uM&&decide (Y4 d n sc≠0))).length=z;omega⟩
 ·have h4:t.uB=4:=by omega
  obtain⟨n,hns⟩:=zeR h.chk h4 h.u0;have hv:=Vm n _ (ziD d n t.uD);rw[if_neg h5,hns.nat];refine⟨rfl,?_⟩;show(wr t n (zoJ t n d) (fmt n (ze0 d n t.uD))).length=z;rw[(zrn hns (yd _ _) (jg _ _) (fun e=>by unfold zoJ at e;simp only[mF,decide_eq_true_eq]at e;exact⟨e.2,by rw[hv];exact e.1.2⟩)).2,h.sz4 hns]
theorem zrz{s:Shape}{z:Nat}(h:MS s z)(h0:s.uB≠0){b:uBi}(hb:b.length=z):(qn s b).2=0->VD (qn s b).1:=
 (zeY (N:=4000) (by decide) h h0 hb).2
theorem numOf_err{t:Shape}{z:Nat}(h:MS t z)(h45:t.uB=4\/t.uB=5){r:uBi}(hr:r.length=z):(qn t r).2=0\/(qn t r).2=15:=by
 unfold qn;by_cases h4:t.uB=4
 ·obtain⟨n,hns⟩:=zeR h.chk h4 h.u0;rw[if_pos h4,hns.nat];have hrv:YY t n r=if(rd t n r).2=true then((rd t n r).1,0)else(digits.mk false [],15):=by unfold YY;rw[if_pos (by rw[hr,h.sz4 hns])]
  unfold Wk;by_cases hk:(rd t n r).2=true
  ·rw[if_pos hk]at hrv;rw[hrv,if_pos rfl];exact .inl rfl
  ·rw[if_neg hk]at hrv;rw[hrv,if_neg (fun e=>by cases e)];exact .inr rfl
 ·have h5:t.uB=5:=by omega
  obtain⟨n,sc,sg,hes⟩:=zfx h.chk h5;rw[if_neg h4,if_pos h5,hes.nat.1,hes.nat.2];unfold zfW;rw[if_neg (by have:=h.siz;omega)];split
  ·exact .inl rfl
  ·split
   ·exact .inl rfl
   ·exact .inr rfl
end Go.Proofs.C06
end
section
set_option maxRecDepth 100000
namespace Go.Proofs.C06
open Go Go.RowKit Go.Vc Go.Am Go.Dg
theorem zho(N:Nat){s t:Shape}(h1:0<=s.uB)(h2:s.uB<=5)(h3:0<=t.uB)(h4:t.uB<=5):KD N s t=some (qT s t):=by
 have hs:s.uB=0\/s.uB=1\/s.uB=2\/s.uB=3\/s.uB=4\/s.uB=5:=by omega
 have ht:t.uB=0\/t.uB=1\/t.uB=2\/t.uB=3\/t.uB=4\/t.uB=5:=by omega
 unfold KD Y5 VH VG qT;by_cases hk:s.uD<=0
 ·rw[decide_eq_true hk,if_neg (by rintro⟨_,e,_⟩;omega)];rcases hs with e|e|e|e|e|e<;>rcases ht with e'|e'|e'|e'|e'|e'<;>rw[e,e']<;>decide
 ·rw[decide_eq_false hk];by_cases hq:s.uB=4/\0<s.uD/\(t.uB=2\/t.uB=3)
  ·rw[if_pos hq,hq.1];rcases hq.2.2 with e'|e'<;>rw[e']<;>decide
  ·rw[if_neg hq];rcases hs with e|e|e|e|e|e<;>rcases ht with e'|e'|e'|e'|e'|e'
   all_goals first
    |(exfalso;omega)
    |(rw[e,e'];decide)
def sp(c:UInt8):Bool:=([32]:uBi).contains c
end Go.Proofs.C06
end
section
set_option maxRecDepth 100000
namespace Go.Proofs.C06
open Go Go.RowKit Go.Vc Go.Am Go.Dg
theorem zrA{s:Shape}{z:Nat}(h:MS s z){b:uBi}(hb:b.length=z)(he:(qn s b).2≠0):(qn s b).2=15:=by
 by_cases h45:s.uB=4\/s.uB=5
 ·rcases numOf_err h h45 hb with e|e
  ·exact absurd e he
  ·exact e
 ·unfold qn at he⊢;rw[if_neg (fun e=>h45 (.inl e)),if_neg (fun e=>h45 (.inr e))]at he⊢;by_cases hd:(Lib.trimS b [32]≠[]/\Digs (Lib.trimS b [32]))/\(Lib.trimS b [32]).length<=62
  ·rw[if_pos hd]at he;obtain⟨d,e1,_⟩:=zoE hd.1.2 hd.2 hd.1.1;rw[e1]at he;exact absurd rfl he
  ·rw[if_neg hd]
end Go.Proofs.C06
end
section
set_option maxRecDepth 100000
namespace Go.Proofs.C06
open Go Go.RowKit Go.Vc Go.Am Go.Dg
theorem zpO{N:Nat}(hN:3000<N){s t:Shape}{z z':Nat}(h:MS s z)(h':MS t z'):YE N s t=some (qT s t):=by unfold YE;rw[zS (by omega) h.pic,h.chk,zc,decide_eq_true rfl,cond_true,zS (by omega) h'.pic,h'.chk,zc,decide_eq_true rfl,cond_true,zc2 N h.c0 h.c5 h'.c0 h'.c5,zc]
end Go.Proofs.C06
end
section
set_option maxRecDepth 100000
namespace Go.Proofs.C06
open Go Go.RowKit Go.Vc Go.Am Go.Dg
def zvE(f:Field):Shape:=Shape.mk f.vA f.vE f.vG f.vD f.uQ f.vL f.vM f.vN f.vO f.vP f.uZ
theorem zmm{s t:Shape}{z:Nat}(h:MS s z){b:uBi}(hb:b.length=z):(ym s t b).2=0\/(ym s t b).2=14\/(ym s t b).2=15:=by
 unfold ym;split
 ·exact .inl rfl
 ·rename_i h4;have h4:s.uB=4:=Classical.byContradiction fun e=>h4 (.inl e)
  have hn:(Wk s s.uA.toNat b).2=0\/(Wk s s.uA.toNat b).2=15:=by have:=numOf_err h (.inl h4) hb;unfold qn at this;rw[if_pos h4]at this;exact this
  split
  ·rename_i he;exact .inr (.inr (hn.resolve_left he))
  ·split
   ·exact .inl rfl
   ·exact .inr (.inl rfl)
theorem zuX{s t:Shape}{z z':Nat}(h:MS s z)(h':MS t z'){b:uBi}(hb:b.length=z):(mvV s t b).2≠1/\(mvV s t b).2≠5/\((mvV s t b).2=12->qT s t=false):=by
 unfold mvV;split
 ·rename_i e;exact⟨by show(12:Int)≠1;decide,by show(12:Int)≠5;decide,fun _=>e⟩
 ·split
  ·exact⟨by show(0:Int)≠1;decide,by show(0:Int)≠5;decide,fun e=>by cases e⟩
  ·rename_i h0;split
   ·rename_i h45;split
    ·rename_i he;have e:=zrA h hb he;show(qn s b).2≠1/\(qn s b).2≠5/\_;rw[e];exact⟨by decide,by decide,fun e=>by cases e⟩
    ·rename_i he;have he:(qn s b).2=0:=Classical.byContradiction he;have e:=(zmq h' h45 (zrz h h0 hb he)).1;rw[e];exact⟨by decide,by decide,fun e=>by cases e⟩
   ·split
    ·rename_i he;have e:(ym s t b).2=14\/(ym s t b).2=15:=(zmm h hb).resolve_left he;show(ym s t b).2≠1/\(ym s t b).2≠5/\((ym s t b).2=12->_)
     exact⟨by omega,by omega,fun e'=>by omega⟩
    ·split
     ·exact⟨by show(0:Int)≠1;decide,by show(0:Int)≠5;decide,fun e=>by cases e⟩
     ·exact⟨by show(0:Int)≠1;decide,by show(0:Int)≠5;decide,fun e=>by cases e⟩
section
variable {s t : Shape}
theorem Ku{b:uBi}(hp:s.uC.length<=400)(hc:0<=s.uB)(hu:0<=s.uH)(hp':t.uC.length<=400)(hc':0<=t.uB)(hu':0<=t.uH):
  ∃r,JJ 4000 (fld s b) t=some r/\(¬(chkV s=0/\chkV t=0)->r=([],1))/\(chkV s=0->chkV t=0->r.2≠1/\(r.2=5↔¬(b.length:Int)=s.uE)/\(r.2=12->qT s t=false)):=by
 by_cases hk:chkV s=0
 ·by_cases ht:chkV t=0
  ·obtain⟨z,hz⟩:=Kp hk hp hc hu;obtain⟨z',hz'⟩:=Kp ht hp' hc' hu';by_cases hl:b.length=z
   ·obtain⟨e1,e2,e3⟩:=zuX hz hz' hl;refine⟨_,zrN (by decide) hz hz' hl,fun e=>absurd ⟨hk,ht⟩ e,fun _ _=>⟨e1,⟨fun e=>absurd e e2,fun e=>absurd (by rw[hz.siz,hl]) e⟩,e3⟩⟩
   ·refine⟨([],5),?_,fun e=>absurd ⟨hk,ht⟩ e,fun _ _=>⟨by show(5:Int)≠1;decide,⟨fun _ e=>hl (by have:=hz.siz;omega),fun _=>rfl⟩,fun e=>by cases e⟩⟩;unfold JJ;show bnd (qY 4000 s) _=_;rw[zS (by decide) hp,hk,zc,decide_eq_true rfl,nE,cond_false,zS (by decide) hp',ht,zc,decide_eq_true rfl,nE];unfold ZF;show cond false _ (cond (!decide ((b.length:Int)=s.uE)) _ _)=_;rw[cond_false,decide_eq_false (by rw[hz.siz];omega),Bool.not_false,cond_true]
  ·refine⟨([],1),?_,fun _=>rfl,fun _ e=>absurd e ht⟩;unfold JJ;show bnd (qY 4000 s) _=_;rw[zS (by decide) hp,hk,zc,decide_eq_true rfl,nE,cond_false,zS (by decide) hp',zc,decide_eq_false ht,Bool.not_false];unfold ZF;rw[cond_true]
 ·refine⟨([],1),?_,fun _=>rfl,fun e=>absurd e hk⟩;unfold JJ;show bnd (qY 4000 s) _=_;rw[zS (by decide) hp,zc,decide_eq_false hk,Bool.not_false,cond_true];unfold ZF;rw[cond_true]
theorem zgt(hp':t.uC.length<=400)(hc':0<=t.uB)(hu':0<=t.uH):∃r,Z1 4000 48 t=some r/\(chkV t=0->r.2=0)/\(chkV t≠0->r.2=1):=by
 by_cases ht:chkV t=0
 ·obtain⟨z',hz'⟩:=Kp ht hp' hc' hu';refine⟨rpV t 48,zmY (N:=4000) (by decide) hz' 48,fun _=>?_,fun e=>absurd ht e⟩;by_cases h3:t.uB=3
  ·unfold rpV;rw[if_neg (by omega),if_pos h3]
  ·exact (zuJ hz' (fun e=>absurd e h3) (fun e=>e.2 rfl)).1
 ·refine⟨([],1),?_,fun e=>absurd e ht,fun _=>rfl⟩;unfold Z1;rw[zS (by decide) hp',zc,zf,if_neg ht]
theorem ziA(hp:s.uC.length<=400)(hc:0<=s.uB)(hu:0<=s.uH)(hp':t.uC.length<=400)(hc':0<=t.uB)(hu':0<=t.uH):
  YE 4000 s t=some (decide (chkV s=0/\chkV t=0)&&qT s t):=by
 by_cases hk:chkV s=0
 ·obtain⟨z,hz⟩:=Kp hk hp hc hu;by_cases ht:chkV t=0
  ·obtain⟨z',hz'⟩:=Kp ht hp' hc' hu';rw[zpO (by decide) hz hz',decide_eq_true ⟨hk,ht⟩,uAu]
  ·unfold YE;rw[zS (by decide) hp,hk,zc,decide_eq_true rfl,cond_true,zS (by decide) hp',zc,decide_eq_false ht,decide_eq_false (fun e=>ht e.2),cond_false,Bool.false_and]
 ·unfold YE;rw[zS (by decide) hp,zc,decide_eq_false hk,decide_eq_false (fun e=>hk e.1),cond_false,Bool.false_and]
end
theorem zcf(f:Field)(t:Shape)(y:F_64)(hc:0<=f.vA)(hu:0<=f.vE)(hc':0<=t.uB)(hu':0<=t.uH)(hy:FX y):∃N,jH N f t y=some true:=by
 refine⟨4000,?_⟩;obtain⟨s,b,rfl⟩:∃s b,f=fld s b:=⟨zvE f,f.vK,rfl⟩
 have hc:0<=s.uB:=hc;have hu:0<=s.uH:=hu;obtain⟨u,z',c,hS,h',hz',_,hF,hcl⟩:=zvz (N:=4000) (by decide) hy;have lv:=ziE;unfold jH;show cond (decide (300<(b.length:Int))) _ (cond (decide (300<(s.uC.length:Int))) _ (cond (decide (300<(t.uC.length:Int))) _ (cond (decide (100000<t.uE)) _ (cond (decide (100000<s.uE)) _ _))))=_;rw[lv];simp only[zc];rw[zb];by_cases g1:300<(b.length:Int)
 ·rw[if_pos g1]
 rw[if_neg g1,zb];by_cases g2:300<(s.uC.length:Int)
 ·rw[if_pos g2]
 rw[if_neg g2,zb];by_cases g3:300<(t.uC.length:Int)
 ·rw[if_pos g3]
 rw[if_neg g3,zb];by_cases g4:100000<t.uE
 ·rw[if_pos g4]
 rw[if_neg g4,zb];by_cases g5:100000<s.uE
 ·rw[if_pos g5]
 rw[if_neg g5];have hp:s.uC.length<=400:=by omega
 have hp':t.uC.length<=400:=by omega
 obtain⟨r7,m7,m8,m9⟩:=Ku (b:=b) hp hc hu hp' hc' hu';obtain⟨r8,n7,n8,n9⟩:=zgt hp' hc' hu';have hL:=ziA hp hc hu hp' hc' hu';obtain⟨r10,p1,p2,p3⟩:=Ku (b:=b) hp hc hu h'.pic h'.c0 h'.u0;obtain⟨r12,q1,q2,q3⟩:=Ku (b:=c++([1]:List Int).map toByte) h'.pic h'.c0 h'.u0 h'.pic h'.c0 h'.u0;have hlen:(c++([1]:List Int).map toByte).length=z'+1:=by rw[mM,hcl];rfl
 have q5:r12.2=5:=(q3 h'.chk h'.chk).2.1.2 (by rw[hlen,h'.siz];omega);have hg:zA 1 (c++([1]:List Int).map toByte).length=true:=by rw[hlen];have:=h'.zle;unfold zA;simp only[mF,Nat.ble_eq];omega
 have k0:jf 4000 (decide (chkV s=0)) (decide (chkV t=0)) r7.1 r7.2 (fld s b) t y=some true:=by
  unfold jf;rw[hS,zc,p1,zc,hF,zc];show chk (zA 1 (c++([1]:List Int).map toByte).length) (bnd (JJ 4000 (fld u (c++([1]:List Int).map toByte)) u) _)=_;rw[hg,za,q1,zc];show cond (!decide (decide (r10.2=1)=!decide (chkV s=0))) (some false) (cond (decide (chkV s=0)) (cond (!decide (decide (r10.2=5)=!decide ((b.length:Int)=s.uE))) (some false) (cond (!decide (r12.2=5)) (some false) (jz 4000 (decide (chkV s=0)) (decide (chkV t=0)) r7.1 r7.2 (fld s b) t)))
   (cond (!decide (r12.2=5)) (some false) (jz 4000 (decide (chkV s=0)) (decide (chkV t=0)) r7.1 r7.2 (fld s b) t)))=some true
  rw[q5,decide_eq_true rfl,nE,cond_false];have bad:¬(chkV s=0/\chkV t=0)->jZ 4000 r7.1 r7.2 true (fld s b) t=some true:=fun e=>by rw[m8 e];unfold jZ;rw[lv];rfl
  have k1:jz 4000 (decide (chkV s=0)) (decide (chkV t=0)) r7.1 r7.2 (fld s b) t=some true:=by
   unfold jz;rw[zf];by_cases hk:chkV s=0
   ·rw[if_pos hk];by_cases ht:chkV t=0
    ·obtain⟨e1,e2,e3⟩:=m9 hk ht;rw[decide_eq_true ht,nE];unfold jZ;rw[cond_false];show cond (decide (decide (r7.2=5)=!decide ((b.length:Int)=s.uE))) (cond (!decide (r7.2=12)) (bnd (qI 4000) _) (bnd (KD 4000 s t) _)) _=_;have hd:decide (r7.2=5)=!decide ((b.length:Int)=s.uE):=by
      by_cases hw:(b.length:Int)=s.uE
      ·rw[decide_eq_true hw,decide_eq_false (fun e=>e2.1 e hw)];rfl
      ·rw[decide_eq_false hw,decide_eq_true (e2.2 hw)];rfl
     rw[decide_eq_true hd,cond_true,zf];obtain⟨z,hz⟩:=Kp hk hp hc hu;obtain⟨z2,hz2⟩:=Kp ht hp' hc' hu';by_cases h12:r7.2=12
     ·rw[if_pos h12,zho 4000 hz.c0 hz.c5 hz2.c0 hz2.c5,zc,e3 h12,Bool.not_false,cond_true,lv];rfl
     ·rw[if_neg h12,lv];rfl
    ·rw[decide_eq_false ht,Bool.not_false];exact bad (fun e=>ht e.2)
   ·rw[if_neg hk];exact bad (fun e=>hk e.1)
  rw[k1];by_cases hk:chkV s=0
  ·obtain⟨e1,e2,e3⟩:=p3 hk h'.chk;have hd:decide (r10.2=5)=!decide ((b.length:Int)=s.uE):=by
    by_cases hw:(b.length:Int)=s.uE
    ·rw[decide_eq_true hw,decide_eq_false (fun e=>e2.1 e hw)];rfl
    ·rw[decide_eq_false hw,decide_eq_true (e2.2 hw)];rfl
   rw[decide_eq_true hk,decide_eq_false e1,decide_eq_true (show false=!true from rfl),nE,cond_false,cond_true,decide_eq_true hd,nE,cond_false]
  ·have e1:r10.2=1:=by rw[p2 (fun e=>hk e.1)]
   rw[decide_eq_false hk,decide_eq_true e1,decide_eq_true (show true=!false from rfl),nE,cond_false,cond_false]
 show bnd (qY 4000 s) (fun rr5=>bnd (qY 4000 t) (fun rr6=>bnd (JJ 4000 (fld s b) t) _))=_;rw[zS (by decide) hp,zc,zS (by decide) hp',zc,m7,zc,n7,zc];show cond _ _ (cond _ (cond _ _ (bnd (YE 4000 s t) _)) (bnd (YE 4000 s t) _))=_;rw[hL];simp only[zc];by_cases ht:chkV t=0
 ·rw[decide_eq_true ht]at k0⊢;rw[decide_eq_true (n8 ht),decide_eq_true (show true=true from rfl),nE,cond_false,cond_false];by_cases hk:chkV s=0
  ·obtain⟨z,hz⟩:=Kp hk hp hc hu;obtain⟨z2,hz2⟩:=Kp ht hp' hc' hu';rw[decide_eq_true hk]at k0⊢;rw[cond_true,cond_true];show bnd (KD 4000 s t) _=_;rw[zho 4000 hz.c0 hz.c5 hz2.c0 hz2.c5,zc,decide_eq_true (And.intro hk ht),uAu,decide_eq_true rfl,nE,cond_false];exact k0
  ·rw[decide_eq_false hk]at k0⊢;rw[cond_false,decide_eq_false (fun e:chkV s=0/\chkV t=0=>hk e.1),Bool.false_and,decide_eq_true rfl,nE,cond_false];exact k0
 ·rw[decide_eq_false ht]at k0⊢;have e8:=n9 ht;rw[e8,decide_eq_false (show¬(1:Int)=0 by decide),decide_eq_true (show false=false from rfl),nE,cond_false,Bool.not_false,cond_true,decide_eq_true rfl,nE,cond_false];rw[decide_eq_false (fun e:chkV s=0/\chkV t=0=>ht e.2),Bool.false_and];by_cases hk:chkV s=0
  ·rw[decide_eq_true hk]at k0⊢;rw[cond_true,cond_false,decide_eq_true rfl,nE,cond_false];exact k0
  ·rw[decide_eq_false hk]at k0⊢;rw[cond_false,decide_eq_true rfl,nE,cond_false];exact k0
end Go.Proofs.C06
end
