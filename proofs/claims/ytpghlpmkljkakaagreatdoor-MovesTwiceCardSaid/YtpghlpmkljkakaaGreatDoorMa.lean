/-
  A part of the proof of the laws on moves.
-/
import Derived.Test.YtpghlpmkljkakaaGreatDoorS7
import Derived.Test.YtpghlpmkljkakaaGreatDoorUa
import Derived.Test.YtpghlpmkljkakaaGreatDoorEc
import Derived.Test.YtpghlpmkljkakaaGreatDoorUg
import Derived.Test.YtpghlpmkljkakaaGreatDoorEd
import Derived.Test.YtpghlpmkljkakaaGreatDoorEg
import Derived.Test.YtpghlpmkljkakaaGreatDoorUi
section
set_option maxRecDepth 100000
namespace Go.Proofs.C06
open Go Go.RowKit Go.Vc Go.Am Go.Dg
def fit(b:List UInt8)(n:Nat)(left:Bool):List UInt8:=if left=true then List.replicate (n-b.length) 32++b.drop (b.length-n)else b.take n++List.replicate (n-b.length) 32
theorem znV(b:List UInt8)(n:Nat)(left:Bool):(fit b n left).length=n:=by
 unfold fit;split
 ·rw[List.length_append,List.length_replicate,List.length_drop];omega
 ·rw[List.length_append,List.length_replicate,List.length_take];omega
theorem zkw{b:List UInt8}{n:Nat}(h:b.length=n)(left:Bool):fit b n left=b:=by
 subst h;unfold fit;split
 ·rw[Nat.sub_self];rfl
 ·rw[Nat.sub_self,List.take_length];exact List.append_nil _
theorem zun(c:UInt8){m:Nat}(hm:m≤100000000):jI [c] (m:Int)=some (List.replicate m c):=by
 have e:∀k:Nat,Lib.repeatL [c] k=List.replicate k c:=fun k=>by
  induction k with
  |zero=>rfl
  |succ k ih=>rw[Lib.repeatL,ih,List.replicate_succ];rfl
 unfold jI;simp only[Int.toNat_natCast,List.length_cons,List.length_nil];rw[decide_eq_true (show(0:Int)≤(m:Int)by omega),decide_eq_true (show(m:Int)≤9223372036854775807 by omega),decide_eq_true (by omega),e];rfl
theorem zqz{n:Nat}(h:n≤100000000):(XN 1 (n:Int)&&decide ((n:Int)=(n:Int)))=true:=by show((Nat.ble (1*n) 281474976710656&&Nat.ble n 9223372036854775807)&&decide ((n:Int)=(n:Int)))=true;rw[decide_eq_true rfl,Bool.and_true,Bool.and_eq_true,Nat.ble_eq,Nat.ble_eq];omega
theorem zoC{l s:List UInt8}(h:s.length=l.length):yC l s 0 l.length=s:=by unfold yC;rw[List.take_zero,List.nil_append,←h,List.take_length,Nat.min_self,Nat.zero_add,h,List.drop_length,List.append_nil]
theorem zrz(N:Nat){n:Nat}(h:n≤1048576):zn5 N (n:Int)=some 0:=by unfold zn5;rw[zb,if_neg (by omega),zb,if_neg (by omega)]
theorem zn6(N:Nat){b:List UInt8}(hb:b.length≤100000000){n:Nat}(hn:n≤1048576)(left:Bool):zpm N b (n:Int) left=some (fit b n left,0):=by
 have hrep:yC (List.replicate n (0:UInt8)) (List.replicate n 32) 0 (List.replicate n (0:UInt8)).length=List.replicate n 32:=zoC (by simp);unfold zpm;rw[zrz N hn,zc,decide_eq_true rfl,Bool.not_true,cond_false,zqz (by omega),za,zun 32 (by omega),zc,Int.toNat_natCast,hrep];cases left with
 |false=>rw[cond_false];unfold yC fit;rw[if_neg (by decide),List.take_zero,List.nil_append,List.length_replicate,Nat.zero_add,List.drop_replicate];congr 3;rw[show n-min b.length n=n-b.length by omega]
 |true=>
  have e1:ji 0 ((n:Int)-(b.length:Int))=((n-b.length:Nat):Int):=by unfold ji;split<;>omega
  have e2:ji 0 ((b.length:Int)-(n:Int))=((b.length-n:Nat):Int):=by unfold ji;split<;>omega
  rw[cond_true,zg (by omega) (by omega),za,e1,List.length_replicate,zE.2 ⟨by omega,by omega,Int.le_refl _⟩,za,zg (by omega) (by omega),za,e2,zE.2 ⟨by omega,by omega,Int.le_refl _⟩,za];have e3:Vc.sub b ((b.length-n:Nat):Int) (b.length:Int)=b.drop (b.length-n):=by unfold Vc.sub;rw[Int.toNat_natCast,Int.toNat_natCast,List.take_length]
  have e4:((n:Int)-((n-b.length:Nat):Int)).toNat=n-(n-b.length):=by omega
  rw[e3,e4,Int.toNat_natCast];unfold yC fit;rw[if_pos rfl,List.take_replicate,Nat.min_eq_left (by omega),List.length_drop,List.drop_replicate,show n-(n-b.length+min (b.length-(b.length-n)) (n-(n-b.length)))=0 by omega,List.take_of_length_le (by rw[List.length_drop];omega)];congr 2;exact List.append_nil _
theorem zn7{N:Nat}(s:List UInt8)(hs:s.length≤1000000):∀(k i:Nat),i≤s.length→s.length-i<k→qB N k s (s.length:Int) (i:Int)=some (decide (Digs (s.drop i)))
 |0,i,_,hk=>by omega
 |k+1,i,hi,hk=>by
  show JL N (qB N k) s _ _=_;unfold JL;by_cases h:i<s.length
  ·have hd:s.drop i=s.getD i 0::s.drop (i+1):=by rw[List.getD_eq_getElem?_getD,List.getElem?_eq_getElem h];exact List.drop_eq_getElem_cons h
   rw[decide_eq_true (by omega),cond_true,zo.2 ⟨by omega,by omega⟩,za];have hb:byteAt s (i:Int)=((s.getD i 0).toNat:Int):=rfl;rw[hb];have hdg:ziJ N ((s.getD i 0).toNat:Int)=some (decide (48≤(s.getD i 0).toNat∧(s.getD i 0).toNat≤57)):=by
    unfold ziJ;rw[zb];by_cases h1:48≤(s.getD i 0).toNat
    ·rw[if_pos (by omega)];congr 1;exact decide_eq_decide.2 ⟨fun h=>⟨h1,by omega⟩,fun h=>by omega⟩
    ·rw[if_neg (by omega),decide_eq_false (fun h=>h1 h.1)]
   rw[hdg,zc,hd];by_cases h1:48≤(s.getD i 0).toNat∧(s.getD i 0).toNat≤57
   ·rw[decide_eq_true h1,Bool.not_true,cond_false,zg (by omega) (by omega),za,show(i:Int)+1=((i+1:Nat):Int)by omega,zn7 s hs k (i+1) (by omega) (by omega)];congr 1;exact decide_eq_decide.2 ⟨fun h c hc=>by rcases List.mem_cons.1 hc with rfl|hc;exact h1;exact h c hc,fun h c hc=>h c (List.mem_cons_of_mem _ hc)⟩
   ·rw[decide_eq_false h1,Bool.not_false,cond_true,decide_eq_false (fun h=>h1 (h _ List.mem_cons_self))]
  ·have:s.length=i:=by omega
   subst this;rw[decide_eq_false (by omega),cond_false,List.drop_length,decide_eq_true (show Digs []from Digs.nil)]
theorem ziH{N:Nat}{s:List UInt8}(hs:s.length<N)(hs2:s.length≤1000000):Vd N s=some (decide (s≠[]∧Digs s)):=by
 unfold Vd;rw[zf];by_cases h:s=[]
 ·rw[if_pos h,decide_eq_false (fun e=>e.1 h)]
 ·rw[if_neg h];unfold zcb;have:=zn7 (N:=N) s hs2 N 0 (Nat.zero_le _) (by omega);rw[show((0:Nat):Int)=0 from rfl]at this;rw[this,zc,List.drop_zero];congr 1;exact decide_eq_decide.2 ⟨fun e=>⟨h,e⟩,fun e=>e.2⟩
end Go.Proofs.C06
end
section
set_option maxRecDepth 100000
namespace Go.Proofs.C06
open Go Go.RowKit Go.Vc Go.Am Go.Dg
def cutK(d:Decimal)(s:Int):Nat:=((d.Scale.toNat:Int)-s).toNat
def Q4(d:Decimal)(s:Int):Decimal:=gD d.Neg (val d.Digits/10^cutK d s*10^cutK d s) d.Scale.toNat
theorem ztV{N:Nat}(hN:3000<N){d:Decimal}(hd:VD d){s:Int}(h1: -62≤s)(h2:s≤62):∃t,zkW N d s=some (Q4 d s,t,0):=by
 obtain⟨x,e,e1,e2,e3⟩:=ziE hN hd (s:=s) (by omega) (by omega);have hf:=hd.form;obtain⟨g1,g2,g3,g4,g5,_⟩:=hd;refine⟨decide (val d.Digits%10^(d.Scale-s).toNat=0),?_⟩;rw[e1];by_cases h:d.Scale≤s
 ·obtain⟨rfl,rfl⟩:=e2 h;unfold Q4 gD;rw[show cutK x s=0 by unfold cutK;omega,Nat.pow_zero,Nat.div_one,Nat.mul_one,hf]
 ·obtain⟨m,hm,hx⟩:=e3 (by omega);have ek:(d.Scale-s).toNat=cutK d s:=by unfold cutK;omega
  rw[ek]at hm;have hv:val (d.Digits.take (d.Digits.length-m)++List.replicate m 48)=val d.Digits/10^cutK d s*10^cutK d s:=by
   rw[ym,(jp g2 (by omega)).1];rcases Nat.lt_or_ge d.Digits.length (cutK d s)with hlt|hge
   ·have hm':m=d.Digits.length:=by omega
    rw[hm',Nat.div_eq_of_lt (jL g2),Nat.div_eq_of_lt (zgD (Nat.le_refl _) g2 (by omega)),Nat.zero_mul,Nat.zero_mul]
   ·have hm':m=cutK d s:=by omega
    rw[hm']
  have e0:(-d.Scale).toNat=0:=by omega
  have hn:nrm d.Neg (d.Digits.take (d.Digits.length-m)++List.replicate m 48) d.Scale=(Q4 d s,0):=by
   rw[Wd,hv,e0,Nat.pow_zero,Nat.mul_one]
   ·rfl
   ·rw[hv,e0,Nat.pow_zero,Nat.mul_one];refine j0 (by decide) (zgD (Nat.div_mul_le_self _ _) g2 g3)
   ·exact Nat.le_trans (zM _ _ _) (by omega)
  rw[hn]at hx;cases hx;rfl
theorem znw(v S:Nat){s:Int}(hS:S≤62)(h1: -62≤s):v/10^((S:Int)-s).toNat*10^((S:Int)-s).toNat*10^(62+s).toNat=quo v S s*10^(62+S):=by
 unfold quo;by_cases h:s≤S
 ·rw[show(s-(S:Int)).toNat=0 by omega,Nat.pow_zero,Nat.mul_one,Nat.mul_assoc,←Nat.pow_add,show((S:Int)-s).toNat+(62+s).toNat=62+S by omega]
 ·rw[show((S:Int)-s).toNat=0 by omega,Nat.pow_zero,Nat.div_one,Nat.mul_one,Nat.div_one,Nat.mul_assoc,←Nat.pow_add,show(s-(S:Int)).toNat+(62+S)=(62+s).toNat by omega]
theorem zrn{d:Decimal}(hd:VD d){s:Int}(h1: -62≤s)(h2:s≤62):VD (Q4 d s)∧exact (val (Q4 d s).Digits) (Q4 d s).Scale.toNat s∧quo (val (Q4 d s).Digits) (Q4 d s).Scale.toNat s=quo (val d.Digits) d.Scale.toNat s:=by
 obtain⟨g1,g2,g3,g4,g5,_⟩:=hd;have hS62:d.Scale.toNat≤62:=by omega
 have hvd:VD (Q4 d s):=VD.of (j0 (by decide) (zgD (Nat.div_mul_le_self _ _) g2 g3)) (Nat.le_trans (zM _ _ _) (by omega));have hg:=zih d.Neg (val d.Digits/10^cutK d s*10^cutK d s) hS62;have hS':(Q4 d s).Scale.toNat≤62:=by have:=hvd.2.2.2.2.1;omega
 have key:val (Q4 d s).Digits*10^(62+s).toNat=quo (val d.Digits) d.Scale.toNat s*10^(62+(Q4 d s).Scale.toNat):=by
  refine Nat.eq_of_mul_eq_mul_right (pow_pos (62+(d.Scale.toNat:Int)).toNat) ?_;have hg':val (Q4 d s).Digits*10^(62+(d.Scale.toNat:Int)).toNat=val d.Digits/10^cutK d s*10^cutK d s*10^(62+(Q4 d s).Scale.toNat):=hg;have e1:(62+(d.Scale.toNat:Int)).toNat=62+d.Scale.toNat:=by omega
  rw[Nat.mul_right_comm,hg',Nat.mul_right_comm,Nat.mul_right_comm (quo _ _ _),e1];congr 1;exact znw (val d.Digits) d.Scale.toNat hS62 h1
 exact⟨hvd,((YP (n:=quo (val d.Digits) d.Scale.toNat s) hS' (by omega) (by omega)).2 ⟨_,XT _,key⟩).1,zhP hS' (by omega) (by omega) key⟩
def grD(ng:Bool)(q:Nat)(sc:Int):Decimal:=yG (canon ng (q*10^(-sc).toNat) sc.toNat)
theorem ztt{N:Nat}(hN:3000<N){d:Decimal}(hd:VD d){n:Nat}{sc:Int}(h1:1≤n)(h18:n≤18)(hs1: -18≤sc)(hs:sc≤18)(he:exact (val d.Digits) d.Scale.toNat sc):
  zjG N d (n:Int) sc=some (grD d.Neg (quo (val d.Digits) d.Scale.toNat sc%10^n) sc,0):=by
 obtain⟨t,e1,e2,e3,e4,e5⟩:=(KL hN hd (n:=n) (s:=sc) (by omega) (by omega) (by omega)).1 he;have hl:d.Digits.length≤1000:=by have:=hd.2.2.1;omega
 unfold zjG;rw[zbB hN hl h1 (by omega) (by omega) (by omega),if_pos hd,zc,zf,if_pos rfl,e1,zc];dsimp only;have hin:zj ((t.length:Int)-(n:Int)) (t.length:Int) t.length=true:=by unfold zj;simp<;>omega
 have hv:val (t.drop (t.length-n))=quo (val d.Digits) d.Scale.toNat sc%10^n:=by rw[(jp e2 e4).2,e3]
 have hlt:quo (val d.Digits) d.Scale.toNat sc%10^n<10^n:=Nat.mod_lt _ (pow_pos n);have hne:t.drop (t.length-n)≠[]:=by intro h;have:=congrArg List.length h;rw[List.length_drop,List.length_nil]at this;omega
 have h10:(10:Nat)^n≤10^18:=Nat.pow_le_pow_right (by decide) h18;have hvd:=zkr (ng:=d.Neg) (q:=quo (val d.Digits) d.Scale.toNat sc%10^n) (sc:=sc) (by omega) hs1 hs;obtain⟨_,_,v3,_,v5,_⟩:=hvd;have v3:(canon d.Neg (quo (val d.Digits) d.Scale.toNat sc%10^n*10^(-sc).toNat) sc.toNat).2.1.length≤62:=v3;rw[Bool.not_true,cond_false,zg (by omega) (by omega),za,hin,za,K8 _ e4,za1 hN _ (e2.drop _) hne (by rw[List.length_drop];omega) (by omega) (by omega),zc,Wd,hv]
 ·rfl
 ·rw[hv];exact v3
 ·exact Nat.le_trans (zM _ _ _) (by omega)
def ZK(d:Decimal)(n:Nat)(sc:Int):Nat:=quo (val d.Digits) d.Scale.toNat sc%10^n
def qJ(s:Shape)(n:Nat)(d:Decimal):Bool:=(d.Neg&&decide (ZK d n s.Scale≠0))&&s.Signed
theorem zro(d:Decimal)(s:Int):(Q4 d s).Neg=(d.Neg&&decide (val d.Digits/10^cutK d s*10^cutK d s≠0)):=zbW _ _ _
theorem zsn{d:Decimal}(hS:d.Scale.toNat≤62){n:Nat}{sc:Int}(h1: -62≤sc)(h:ZK d n sc≠0):(Q4 d sc).Neg=d.Neg:=by
 rw[zro];have:val d.Digits/10^cutK d sc*10^cutK d sc≠0:=by
  intro e;have hk:=znw (val d.Digits) d.Scale.toNat hS h1;have e':val d.Digits/10^((d.Scale.toNat:Int)-sc).toNat*10^((d.Scale.toNat:Int)-sc).toNat=0:=e;rw[e',Nat.zero_mul]at hk;have:quo (val d.Digits) d.Scale.toNat sc=0:=by
   rcases Nat.mul_eq_zero.1 hk.symm with h|h
   ·exact h
   ·exact absurd h (Nat.ne_of_gt (pow_pos _))
  apply h;unfold ZK;rw[this,Nat.zero_mod]
 rw[decide_eq_true this,Bool.and_true]
theorem znM(ng:Bool)(q:Nat)(sc:Int):(grD ng q sc).Neg=(ng&&decide (q≠0)):=by show(canon ng (q*10^(-sc).toNat) sc.toNat).1=_;rw[zfk];congr 1;exact decide_eq_decide.2 ⟨fun h e=>h (by rw[e,Nat.zero_mul]),fun h=>Nat.mul_ne_zero h (Nat.ne_of_gt (pow_pos _))⟩
theorem zoW{ng ng':Bool}{q:Nat}(sc:Int)(h:q≠0→ng=ng'):grD ng q sc=grD ng' q sc:=by unfold grD;rw[zhc (fun e=>h (fun e0=>e (by rw[e0,Nat.zero_mul])))]
theorem ztD{N:Nat}(hN:3000<N){d:Decimal}(hd:VD d){n:Nat}{sc:Int}(h1:1≤n)(h18:n≤18)(hs1: -18≤sc)(hs:sc≤18):
  zjG N (Q4 d sc) (n:Int) sc=some (grD d.Neg (ZK d n sc) sc,0):=by
 obtain⟨c1,c2,c3⟩:=zrn hd (s:=sc) (by omega) (by omega);rw[ztt hN c1 h1 h18 hs1 hs c2,c3];have e:grD (Q4 d sc).Neg (ZK d n sc) sc=grD d.Neg (ZK d n sc) sc:=zoW sc fun h=>zsn (by have:=hd.2.2.2.2.1;omega) (by omega) h
 show some (grD (Q4 d sc).Neg (ZK d n sc) sc,(0:Int))=_;rw[e]
theorem KV(d:Decimal)(n:Nat)(sc:Int):ZK d n sc<10^n:=Nat.mod_lt _ (pow_pos n)
theorem ztJ{ng:Bool}{q n:Nat}{sc:Int}(hq:q<10^n)(hn:n≤18)(h1: -18≤sc)(h2:sc≤18):VD (grD ng q sc):=by have h10:(10:Nat)^n≤10^18:=Nat.pow_le_pow_right (by decide) hn;exact zkr (by omega) h1 h2
theorem znL(ng:Bool){q n:Nat}{sc:Int}(hq:q<10^n)(h1: -18≤sc)(h2:sc≤18):ZF (grD ng q sc) n sc∧quo (val (grD ng q sc).Digits) (grD ng q sc).Scale.toNat sc=q:=by refine⟨(zoV ng q n h1 h2).2 hq,?_⟩;have hg:=zfl ng q (sc:=sc) (by omega);have hcs:=zM ng (q*10^(-sc).toNat) sc.toNat;show quo (val (canon ng (q*10^(-sc).toNat) sc.toNat).2.1) (((canon ng (q*10^(-sc).toNat) sc.toNat).2.2:Int)).toNat sc=q;rw[Int.toNat_natCast];exact zhP (by omega) (by omega) (by omega) hg
theorem zqf(s:Shape){n q:Nat}(ng:Bool)(hq:q<10^n)(h1: -18≤s.Scale)(h2:s.Scale≤18):zjJ s n (grD ng q s.Scale)=(wr s n ((ng&&decide (q≠0))&&s.Signed) (fmt n q),0):=by obtain⟨f1,f2⟩:=znL ng hq h1 h2;unfold zjJ;rw[if_pos f1,f2,znM]
theorem zsl{N:Nat}(hN:3000<N){s:Shape}{n:Nat}(h:NS s n)(hc:chkV s=0)(hp:s.Picture.length≤400){d:Decimal}(hd:VD d):
  zsm N d s=some (wr s n (qJ s n d) (fmt n (ZK d n s.Scale)),0):=by
 have h1:=h.sc1;have h2:=h.sc2;obtain⟨t,e1⟩:=ztV hN hd (s:=s.Scale) (by omega) (by omega);unfold zsm;rw[e1,zc];dsimp only;rw[decide_eq_true rfl,Bool.not_true,cond_false,h.dig,ztD hN hd h.n1 h.n18 h1 h2,zc];dsimp only;rw[decide_eq_true rfl,Bool.not_true,cond_false,zhA hN h hc hp (ztJ (KV d n s.Scale) h.n18 h1 h2),zqf s d.Neg (KV d n s.Scale) h1 h2,zc];rfl
end Go.Proofs.C06
end
section
set_option maxRecDepth 100000
namespace Go.Proofs.C06
open Go Go.RowKit Go.Vc Go.Am Go.Dg
structure MS(s:Shape)(z:Nat):Prop where
 chk:chkV s=0
 pic:s.Picture.length≤400
 siz:s.Size=(z:Int)
 c0:0≤s.Category
 c5:s.Category≤5
 u0:0≤s.Usage
 zle:z≤1048576
 zl:s.Category≠0→z≤400
theorem zk4{s:Shape}(h:chkV s=0):yB s=0:=by
 unfold chkV at h;by_cases hE:yB s=0
 ·exact hE
 ·rw[if_pos hE]at h;exact absurd h hE
theorem zs5{s:Shape}(h:chkV s=0)(hp:s.Picture.length≤400)(hc:0≤s.Category)(hu:0≤s.Usage):∃z,MS s z:=by
 have hE:=zk4 h;have hE':=hE;unfold yB at hE;split at hE
 ·cases hE
 ·rename_i h1;split at hE
  ·cases hE
  ·rename_i h2;split at hE
   ·cases hE
   ·rename_i h3;by_cases h0:s.Category=0
    ·refine⟨s.Size.toNat,h,hp,by omega,hc,by omega,hu,by omega,fun e=>absurd h0 e⟩
    ·have hs:=zr3 h h0;have hz:0≤sizeV s∧sizeV s≤400:=by
      unfold sizeV;rw[if_neg h0];split
      ·have:szN s.Picture≤s.Picture.length:=by unfold szN;omega
       omega
      ·repeat' split
       all_goals omega
     refine⟨s.Size.toNat,h,hp,by omega,hc,by omega,hu,by omega,fun _=>by omega⟩
def alw(a b:Int):Bool:=decide ((bits .and .u8 ((Am.zeR (atV [.int .u8 63,.int .u8 15,.int .u8 63,.int .u8 15,.int .u8 61,.int .u8 61] a))/2^b.toNat) 1)=1)
def Yv(s t:Shape):Bool:=if s.Category=4∧0<s.Scale∧(t.Category=2∨t.Category=3)then false else alw s.Category t.Category
theorem zj8(N:Nat){s t:Shape}(h1:0≤s.Category)(h2:s.Category≤5)(h3:0≤t.Category)(h4:t.Category≤5):XS N s t=some (Yv s t):=by
 have k1:yZ N s t=some (alw s.Category t.Category):=by
  unfold yZ;have hn:(ze t.Category&&Nat.ble t.Category.toNat 8)=true:=by unfold ze;rw[decide_eq_true h3,Bool.true_and,Nat.ble_eq];omega
  rw[zo.2 ⟨h1,by omega⟩,za,hn,za];rfl
 have k0:∀x:Bool,x=decide (t.Category=2∨t.Category=3)→Zk N x s t=some (Yv s t):=by
  intro x hx;unfold Zk Yv;rw[k1,zb];by_cases e4:s.Category=4
  ·rw[if_pos e4,zb];by_cases es:0<s.Scale
   ·rw[if_pos es];cases x with
    |true=>rw[cond_true,if_pos ⟨e4,es,of_decide_eq_true hx.symm⟩]
    |false=>rw[cond_false,if_neg (fun e=>of_decide_eq_false hx.symm e.2.2)]
   ·rw[if_neg es,if_neg (fun e=>es e.2.1)]
  ·rw[if_neg e4,if_neg (fun e=>e4 e.1)]
 unfold XS;rw[zb];by_cases e2:t.Category=2
 ·rw[if_pos e2];exact k0 _ (decide_eq_true (.inl e2)).symm
 ·rw[if_neg e2];exact k0 _ (decide_eq_decide.2 ⟨fun e=>.inr e,fun e=>by rcases e with e|e;exact absurd e e2;exact e⟩)
theorem zrJ{s t:Shape}(h4:s.Category=4)(h:Yv s t=true)(h1:0≤t.Category)(h2:t.Category≤5)(ht:t.Category≠0)(ht4:t.Category≠4)(ht5:t.Category≠5):s.Scale≤0:=by
 unfold Yv at h;split at h
 ·cases h
 ·rename_i hn;have:t.Category=1∨t.Category=2∨t.Category=3:=by omega
  rcases this with e|e|e
  ·rw[h4,e]at h;exact absurd h (by decide)
  ·apply Classical.byContradiction;intro hs;exact hn ⟨h4,by omega,.inl e⟩
  ·apply Classical.byContradiction;intro hs;exact hn ⟨h4,by omega,.inr e⟩
def j7(s:Shape)(b:List UInt8):Decimal×Int:=if s.Category=4 then X3 s s.Digits.toNat b else if s.Category=5 then za8 s s.Digits.toNat s.Scale.toNat b else if(Lib.trimS b [32]≠[]∧Digs (Lib.trimS b [32]))∧(Lib.trimS b [32]).length≤62 then nrm false (Lib.trimS b [32]) 0 else(zdy,15)
theorem NS.nat{s:Shape}{n:Nat}(h:NS s n):s.Digits.toNat=n:=by have:=h.dig;omega
theorem ES.nat{s:Shape}{n sc:Nat}{sg:Bool}(h:ES s n sc sg):s.Digits.toNat=n∧s.Scale.toNat=sc:=by have:=h.dig;have:=h.scl;omega
theorem zpS(b cs:List UInt8):(Lib.trimS b cs).length≤b.length:=by
 have h:∀(p:UInt8→Bool)(l:List UInt8),(l.dropWhile p).length≤l.length:=fun p l=>(List.dropWhile_sublist p).length_le
 unfold Lib.trimS Lib.trimRightS Lib.trimLeftS;refine Nat.le_trans (h _ _) ?_;rw[List.length_reverse];refine Nat.le_trans (h _ _) ?_;rw[List.length_reverse];exact Nat.le_refl _
theorem zsh{l:List UInt8}(hd:Digs l)(hl:l.length≤62)(h0:l≠[]):∃d,nrm false l 0=(d,0)∧VD d:=by
 have h1:1≤l.length:=by cases l with|nil=>exact absurd rfl h0|cons _ _=>simp
 have hv:val l<10^l.length:=jL hd;have c1:(canon false (val l*10^(-(0:Int)).toNat) (0:Int).toNat).2.1.length≤62:=by rw[show(-(0:Int)).toNat=0 from rfl,Nat.pow_zero,Nat.mul_one];exact Nat.le_trans (j0 h1 hv) hl
 have c2:(canon false (val l*10^(-(0:Int)).toNat) (0:Int).toNat).2.2≤62:=Nat.le_trans (zM _ _ _) (by decide);exact⟨_,Wd c1 c2,VD.of c1 c2⟩
theorem znP{s:Shape}{n:Nat}(h:NS s n){b:List UInt8}(h0:(X3 s n b).2=0):VD (X3 s n b).1:=by
 unfold X3 at h0⊢;by_cases hr:(Jl s n b).2=0
 ·rw[if_pos hr];obtain⟨r1,r2,r3⟩:=zd6 h hr;rw[r3];obtain⟨d1,d2⟩:=znu h r1 r2;exact (znD h d1 d2).1
 ·rw[if_neg hr]at h0;exact absurd h0 hr
theorem zrG{s:Shape}{n sc:Nat}{sg:Bool}(h:ES s n sc sg){b:List UInt8}(h0:(za8 s n sc b).2=0):VD (za8 s n sc b).1:=by
 have h18:=h.n18;have hsc:=h.scn;have hq:=(zlb h b).2.2;unfold za8 at h0⊢;split at h0
 ·cases h0
 ·rename_i e1;rw[if_neg e1];split at h0
  ·rename_i e2;rw[if_pos e2];exact znQ (n:=n) (by omega) h.n1 hq (by omega)
  ·rename_i e2;rw[if_neg e2];split at h0
   ·rename_i e3;rw[if_pos e3];exact znQ (n:=n) (by omega) h.n1 hq (by omega)
   ·cases h0
theorem zno{s:Shape}{n:Nat}(h:NS s n):szV s n≤300:=by
 have:=h.n18;unfold szV binW
 repeat' split
 all_goals omega
theorem MS.sz4{s:Shape}{z n:Nat}(h:MS s z)(hn:NS s n):z=szV s n:=by have h1:=h.siz;have h2:=hn.size;omega
theorem zes{N:Nat}(hN:3000<N){s:Shape}{z:Nat}(h:MS s z)(h0:s.Category≠0){b:List UInt8}(hb:b.length=z):
  zdl N (fld s b)=some (j7 s b)∧((j7 s b).2=0→VD (j7 s b).1):=by
 have hz:=h.zl h0;unfold zdl j7;show cond (decide (s.Category=4)) _ (cond (decide (s.Category=5)) _ _)=_∧_;rw[zb];by_cases h4:s.Category=4
 ·rw[if_pos h4,if_pos h4];obtain⟨n,hn⟩:=zak h.chk h4 h.u0;have hz:=zno hn;rw[←h.sz4 hn]at hz;rw[hn.nat,znj hN hn h.chk h.pic (by omega),zc];exact⟨rfl,znP hn⟩
 ·rw[if_neg h4,if_neg h4,zb];by_cases h5:s.Category=5
  ·rw[if_pos h5,if_pos h5];obtain⟨n,sc,sg,hn⟩:=zaR h.chk h5;rw[hn.nat.1,hn.nat.2];have:=zrQ hN hn h.chk b;rw[show fld s b=zut s b from rfl,this,zc];exact⟨rfl,zrG hn⟩
  ·rw[if_neg h5,if_neg h5];have hl:=zpS b [32];show bnd (Zp b [32]) _=_∧_;rw[zau (by omega) (by decide) (by decide),zc,ziH (by omega) (by omega),zc,zf];by_cases hd:Lib.trimS b [32]≠[]∧Digs (Lib.trimS b [32])
   ·rw[if_pos hd,zb];by_cases h62:(Lib.trimS b [32]).length≤62
    ·obtain⟨d,e1,e2⟩:=zsh hd.2 h62 hd.1;rw[if_neg (by omega),if_pos ⟨hd,h62⟩,za1 hN false hd.2 hd.1 (by omega) (by decide) (by decide),zc,e1];exact⟨rfl,fun _=>e2⟩
    ·rw[if_pos (by omega),if_neg (fun e=>h62 e.2)];exact⟨rfl,fun e=>by cases e⟩
   ·rw[if_neg hd,if_neg (fun e=>hd e.1)];exact⟨rfl,fun e=>by cases e⟩
def yz(t:Shape)(d:Decimal):List UInt8×Int:=if t.Category=5 then((edT t t.Digits.toNat d.Neg (yf d t.Digits.toNat t.Scale.toNat)).getD [],0)else(wr t t.Digits.toNat (qJ t t.Digits.toNat d) (fmt t.Digits.toNat (ZK d t.Digits.toNat t.Scale)),0)
def lenT(s:Shape):Nat:=s.Digits.toNat+(-s.Scale).toNat
def Yg(s t:Shape)(b:List UInt8):List UInt8×Int:=if s.Category≠4∨t.Category=0 then(b,0)else if(X3 s s.Digits.toNat b).2≠0 then([],(X3 s s.Digits.toNat b).2)else if ZF (X3 s s.Digits.toNat b).1 (lenT s) 0 then(fmt (lenT s) (quo (val (X3 s s.Digits.toNat b).1.Digits) (X3 s s.Digits.toNat b).1.Scale.toNat 0),0)else([],14)
theorem zqB{N:Nat}(hN:3000<N){s t:Shape}{z:Nat}(h:MS s z)(hsc:s.Category=4→t.Category≠0→s.Scale≤0){b:List UInt8}(hb:b.length=z):znI N (fld s b) t=some (Yg s t b)∧(Yg s t b).1.length≤1048576:=by
 have hz:=h.zle;unfold znI Yg;show cond (!decide (s.Category=4)) _ _=_∧_;rw[zf];by_cases h4:s.Category=4
 ·rw[if_pos h4,zb];by_cases t0:t.Category=0
  ·rw[if_pos t0,if_pos (.inr t0)];exact⟨rfl,by rw[hb];exact hz⟩
  ·rw[if_neg t0,if_neg (by rintro(e|e);exact e h4;exact t0 e)];obtain⟨n,hn⟩:=zak h.chk h4 h.u0;have hz3:=zno hn;rw[←h.sz4 hn]at hz3;rw[hn.nat,znj hN hn h.chk h.pic (by omega),zc,zf];by_cases hg:(X3 s n b).2=0
   ·have hs0:=hsc h4 t0;have hs1:=hn.sc1;have h18:=hn.n18;have h1:=hn.n1;have hdg:=hn.dig;have em:ji s.Scale 0=0:=by unfold ji;split<;>omega
    have el:(s.Digits-s.Scale)+ji s.Scale 0=((lenT s:Nat):Int):=by unfold lenT;rw[em];omega
    have elt:lenT s=n+(-s.Scale).toNat:=by unfold lenT;rw[hn.nat]
    rw[if_pos hg,if_neg (fun e=>e hg)];show chk (inKb .i64 (s.Digits-s.Scale)) (chk (inKb .i64 ((s.Digits-s.Scale)+ji s.Scale 0)) (bnd (JW N (X3 s n b).1 ((s.Digits-s.Scale)+ji s.Scale 0) 0) _))=_∧_;rw[el,zg (by omega) (by omega),za,zg (by omega) (by omega),za,VZ hN (znP hn hg) (by omega) (by omega) (by decide) (by decide),zc];refine⟨rfl,?_⟩;split
    ·show(fmt _ _).length≤_;rw[zG];omega
    ·show([]:List UInt8).length≤_;decide
   ·rw[if_neg hg,if_pos hg];exact⟨rfl,Nat.zero_le _⟩
 ·rw[if_neg h4,if_pos (.inl h4)];exact⟨rfl,by rw[hb];exact hz⟩
def mvV(s t:Shape)(b:List UInt8):List UInt8×Int:=if Yv s t=false then([],12)else if s.Category=0 then(fit b t.Size.toNat false,0)else if t.Category=4∨t.Category=5 then(if(j7 s b).2≠0 then([],(j7 s b).2)else yz t (j7 s b).1)else if(Yg s t b).2≠0 then([],(Yg s t b).2)else if t.Category=3 then(txt t.Picture (Yg s t b).1,0)else(fit (Yg s t b).1 t.Size.toNat t.Just,0)
theorem zqK{t:Shape}(h:chkV t=0)(h3:t.Category=3):Xo t 3=0:=by unfold Xo;rw[if_neg (fun e=>e h),if_neg (fun e=>e h3)]
theorem zj7{N:Nat}(hN:3000<N){s t:Shape}{z z':Nat}(h:MS s z)(h':MS t z'){b:List UInt8}(hb:b.length=z):zap N (fld s b) t=some (mvV s t b):=by
 have hz:=h.zle;have hz':=h'.zle;have hS:s.Size.toNat=z:=by have:=h.siz;omega
 have hT:t.Size.toNat=z':=by have:=h'.siz;omega
 have k1:∀x:Bool,Yv s t=true→s.Category≠0→x=decide (t.Category=4∨t.Category=5)→XQ N x (fld s b) t=some (mvV s t b):=by
  intro x hal h0 hx;unfold XQ mvV;rw[if_neg (by rw[hal];decide),if_neg h0];cases x with
  |true=>
   have ht:=of_decide_eq_true hx.symm;obtain⟨e1,e2⟩:=zes hN h h0 hb;rw[cond_true,if_pos ht,e1,zc,zf];by_cases hn:(j7 s b).2=0
   ·rw[if_pos hn,if_neg (fun e=>e hn),zb];unfold yz;by_cases h5:t.Category=5
    ·rw[if_pos h5,if_pos h5];obtain⟨n,sc,sg,hes⟩:=zaR h'.chk h5;obtain⟨r,f1,f2⟩:=zbk hN hes h'.chk (e2 hn);rw[hes.nat.1,hes.nat.2,f2,f1,zc];rfl
    ·rw[if_neg h5,if_neg h5];have h4:t.Category=4:=by omega
     obtain⟨n,hns⟩:=zak h'.chk h4 h'.u0;rw[hns.nat,zsl hN hns h'.chk h'.pic (e2 hn),zc]
   ·rw[if_neg hn,if_pos hn]
  |false=>
   have ht:=of_decide_eq_false hx.symm;obtain⟨e1,e2⟩:=zqB (t:=t) hN h (fun h4 t0=>zrJ h4 hal h'.c0 h'.c5 t0 (fun e=>ht (.inl e)) (fun e=>ht (.inr e))) hb;rw[cond_false,if_neg ht,e1,zc,zf];by_cases hn:(Yg s t b).2=0
   ·rw[if_pos hn,if_neg (fun e=>e hn),zb];by_cases h3:t.Category=3
    ·have hk:=zqK h'.chk h3;have hzz:=h'.zl (by omega);rw[if_pos h3,if_pos h3,zfB (by omega) h'.pic _ (fun _=>by have:=h'.siz;omega),if_neg (fun e=>e hk),zc]
    ·rw[if_neg h3,if_neg h3,h'.siz,zn6 N (by omega) hz',zc,Int.toNat_natCast]
   ·rw[if_neg hn,if_pos hn]
 have k0:XR N false (fld s b) t=some (mvV s t b):=by
  unfold XR;rw[cond_false];show cond (!decide ((b.length:Int)=s.Size)) _ (bnd (XS N s t) _)=_;rw[decide_eq_true (by rw[hb,h.siz]),Bool.not_true,cond_false,zj8 N h.c0 h.c5 h'.c0 h'.c5,zc];cases hal:Yv s t with
  |false=>rw[Bool.not_false,cond_true];unfold mvV;rw[if_pos hal]
  |true=>
   rw[Bool.not_true,cond_false];show cond (decide (s.Category=0)) (bnd (zpm N b t.Size false) _) _=_;rw[zb];by_cases h0:s.Category=0
   ·rw[if_pos h0,h'.siz,zn6 N (by omega) hz',zc];unfold mvV;rw[if_neg (by rw[hal];decide),if_pos h0,hT]
   ·rw[if_neg h0,zb];by_cases h4:t.Category=4
    ·rw[if_pos h4];exact k1 true hal h0 (decide_eq_true (.inl h4)).symm
    ·rw[if_neg h4];exact k1 _ hal h0 (decide_eq_decide.2 ⟨fun e=>.inr e,fun e=>by rcases e with e|e;exact absurd e h4;exact e⟩)
 unfold zap;show bnd (zbl N s) _=_;rw[Qg (by omega) h.pic,h.chk,zc,decide_eq_true rfl,Bool.not_true,cond_false,Qg (by omega) h'.pic,h'.chk,zc,decide_eq_true rfl,Bool.not_true];exact k0
end Go.Proofs.C06
end
section
set_option maxRecDepth 100000
namespace Go.Proofs.C06
open Go Go.RowKit Go.Vc Go.Am Go.Dg
theorem zar:j8 4000=some true:=by kernel_rfl
def tx(c:Int)(p:List UInt8)(just:Bool):Shape:=Shape.mk c 0 p 0 0 false false false just false (p.length:Int)
theorem znN{c:Int}{p:List UInt8}(hpar:parS p=(tx c p false,0))(hne:p≠[])(hl:p.length≤80)(hsym:∀x∈p,syms.contains x=true)(hc:1≤c∧c≤3)(hsz:(tx c p false).Size=sizeV (tx c p false)):Good p (tx c p false) where
 par:=hpar
 ne:=hne
 len:=hl
 sym:=hsym
 pic:=rfl
 cat:=by show 1≤c∧c≤5;omega
 use:=rfl
 dig:=by show(0:Int)≤18;decide
 num:=fun h=>by have h:c=4:=h;omega
 sca:=by show(0:Int)≤18;decide
 led:=rfl
 sep:=rfl
 jus:=rfl
 bla:=rfl
 siz:=hsz
theorem zqS{m:Nat}(h1:1≤m)(h2:m≤80):Good (List.replicate m 65) (tx 1 (List.replicate m 65) false)∧Good (List.replicate m 88) (tx 2 (List.replicate m 88) false):=by
 have hl:∀c:UInt8,(List.replicate m c).length=m:=fun c=>List.length_replicate
 have hne:∀c:UInt8,List.replicate m c≠[]:=fun c e=>by have:=congrArg List.length e;rw[hl]at this;simp at this;omega
 have hsz:∀(c:UInt8)(k:Int),c≠86→(k=1∨k=2)→(tx k (List.replicate m c) false).Size=sizeV (tx k (List.replicate m c) false):=fun c k hc hk=>by
  unfold sizeV;rw[if_neg (show¬(tx k (List.replicate m c) false).Category=0 from fun e=>by have e:k=0:=e;omega),if_pos (show(tx k (List.replicate m c) false).Category≠4 from fun e=>by have e:k=4:=e;omega)];unfold szN;show((List.replicate m c).length:Int)=(((List.replicate m c).length-(List.replicate m c).count 86:Nat):Int)
  rw[List.count_eq_zero.2 (fun hm=>hc (List.eq_of_mem_replicate hm).symm),Nat.sub_zero]
 have cn:∀(set:List UInt8)(c:UInt8),set.contains c=true→cnt set (List.replicate m c)=(List.replicate m c).length:=fun set c h=>zb8 fun x hx=>by rw[List.eq_of_mem_replicate hx];exact h
 refine⟨znN ?_ (hne _) (by rw[hl];exact h2) (fun c hc=>by rw[List.eq_of_mem_replicate hc];decide) (by decide) (hsz 65 1 (by decide) (.inl rfl)),znN ?_ (hne _) (by rw[hl];exact h2) (fun c hc=>by rw[List.eq_of_mem_replicate hc];decide) (by decide) (hsz 88 2 (by decide) (.inr rfl))⟩
 ·unfold parS zbs;rw[if_pos (cn [65] 65 (by decide))];rfl
 ·unfold parS zbs;have k1:¬cnt [65] (List.replicate m (88:UInt8))=(List.replicate m (88:UInt8)).length:=by
   obtain⟨k,rfl⟩:∃k,m=k+1:=⟨m-1,by omega⟩
   rw[List.replicate_succ,jN,if_neg (by decide),List.length_cons];omega
  have k2:¬(List.replicate m (88:UInt8)).countP zoR=0:=by
   obtain⟨k,rfl⟩:∃k,m=k+1:=⟨m-1,by omega⟩
   rw[List.replicate_succ,List.countP_cons_of_pos (by rfl)];omega
  rw[if_neg k1,if_neg k2,if_pos (cn [65,88,57] 88 (by decide))];rfl
theorem zsY{c:Int}{p:List UInt8}(hg:Good p (tx c p false))(hc:c=1∨c=2)(just:Bool):MS (tx c p just) p.length:=by
 have hpar:=zgT hg;have hl:=hg.len;have hs:(p.length:Int)=sizeV (tx c p false):=hg.siz;have hs':(p.length:Int)=sizeV (tx c p just):=hs;refine⟨?_,by show p.length≤400;omega,rfl,by show 0≤c;omega,by show c≤5;omega,by show(0:Int)≤0;decide,by omega,fun _=>by omega⟩;have e1:yB (tx c p just)=0:=by unfold yB tx;dsimp only;rw[if_neg (by omega),if_neg (by omega),if_neg (by omega)]
 unfold chkV;rw[if_neg (fun k=>k e1),if_neg (show¬(tx c p just).Category=0 from fun e=>by have e:c=0:=e;omega)];unfold zcX;rw[show(tx c p just).Picture=p from rfl,hpar];unfold Xj;have n4:c≠4:=by omega
 simp only[tx,ne_eq,not_true_eq_false,if_false,or_self,decide_false,Bool.false_eq_true,false_and,not_false_eq_true,n4];rw[if_neg (by rintro⟨_,e1,e2⟩;omega)];exact if_pos hs'
def gr(n:Nat):Shape:=Shape.mk 0 0 [] 0 0 false false false false false (n:Int)
theorem ztI{n:Nat}(h:n≤1000):MS (gr n) n:=by
 refine⟨?_,Nat.zero_le _,rfl,Int.le_refl 0,show(0:Int)≤5 by decide,Int.le_refl 0,by omega,fun e=>absurd rfl e⟩;have e1:yB (gr n)=0:=by unfold yB gr;dsimp only;rw[if_neg (by omega),if_neg (by omega),if_neg (by omega)]
 have e2:zcz (gr n):=⟨rfl,rfl,rfl,rfl,rfl,rfl,rfl,rfl,rfl⟩
 unfold chkV;rw[if_neg (fun k=>k e1),if_pos (show(gr n).Category=0 from rfl),if_pos e2]
theorem zuK(l:List UInt8):shT (3::l)=tx 3 (picT (3::l)) false:=by
 unfold shT zfi;rw[if_neg]
 ·rfl
 ·intro h;have:=ziP h 66 (by unfold picT;simp[sy6]);exact absurd this (by decide)
theorem zuy{l:List UInt8}(hl:l.length≤19):MS (tx 3 (picT (3::l)) false) (picT (3::l)).length:=by have hg:=zoX (l:=3::l) (by simpa using hl);rw[zuK]at hg;have:=hg.len;exact⟨zks hg,by show(picT _).length≤400;omega,rfl,show(0:Int)≤3 by decide,show(3:Int)≤5 by decide,Int.le_refl 0,by omega,fun _=>by omega⟩
structure FX(x:F_64):Prop where
 k0:0≤x.Kind
 d0:0≤x.Number_Digits
 d1:x.Number_Digits≤255
 p0:0≤x.Number_Point
 p1:x.Number_Point≤255
 f0:0≤x.Number_Form
 f1:x.Number_Form≤255
 s0:0≤x.Edited_Sign
 o0:0≤x.Edited_Dollar
 w0:0≤x.Edited_Whole
 m0:0≤x.Edited_Many
 n0:0≤x.Edited_Nines
 t0:0≤x.Edited_Point
 a0:0≤x.Edited_Part
 ins:∀v∈x.Edited_Insert,0≤v∧v≤65535
def fF(x:F_64):F:=F.mk x.Number_Digits x.Number_Point x.Number_Form x.Number_Neg x.Number_Value
def fE(x:F_64):E:=E.mk x.Edited_Sign x.Edited_Dollar x.Edited_Whole x.Edited_Many x.Edited_Nines x.Edited_Point x.Edited_Part x.Edited_Insert x.Edited_Blank
theorem zbj{N:Nat}{sym:UInt8}{x:F_64}{b1:Shape}{c:Int}{m:Nat}(hm:m≤1000):∀(k i:Nat),i≤m→m-i<k→
  Qc N k [sym] (i:Int) x b1 (Shape.mk c 0 (List.replicate i sym) 0 0 false false false false false (m:Int))=some (tx c (List.replicate m sym) x.Just)
 |0,i,_,hk=>by omega
 |k+1,i,hi,hk=>by
  show Kz N (Qc N k) [sym] _ x b1 _=_;unfold Kz;dsimp only;rw[zb];by_cases h:i<m
  ·rw[if_pos (by omega),qA (by simp;omega),za,zg (by omega) (by omega),za,←List.replicate_succ',show(i:Int)+1=((i+1:Nat):Int)by omega];exact zbj hm k (i+1) (by omega) (by omega)
  ·have:i=m:=by omega
   subst this;rw[if_neg (by omega)];unfold tx;rw[List.length_replicate]
theorem zto{c:UInt8}:atS ([[88],[65],[57],[66],[48],[47]]:List (List UInt8)) ((c.toNat:Int)%6)=[sy6 c]:=by
 unfold atS sy6;rw[show((c.toNat:Int)%6).toNat=c.toNat%6 by omega];have h:c.toNat%6<6:=Nat.mod_lt _ (by decide);generalize c.toNat%6=j at h;rcases j with _|_|_|_|_|_|j
 all_goals first|rfl|omega
theorem zbi{N:Nat}{x:F_64}{b1:Shape}{n:Nat}(hn:n≤x.Text.length)(h24:n≤24)(z:Int):∀(k i:Nat),i≤min n 12→min n 12-i<k→
  Qb N k (n:Int) (i:Int) x b1 (Shape.mk 3 0 (picT (3::x.Text.take i)) 0 0 false false false false false z)=some (tx 3 (picT (3::x.Text.take (min n 12))) false)
 |0,i,_,hk=>by omega
 |k+1,i,hi,hk=>by
  show Ky N (Qb N k) _ _ x b1 _=_;unfold Ky;dsimp only;have hlen:(picT (3::x.Text.take i)).length≤100:=by unfold picT;simp;omega
  rw[zb];by_cases h:i<min n 12
  ·have hit:i<x.Text.length:=by omega
   have hnn:(ze (byteAt x.Text (i:Int))&&decide ((0:Int)<6))=true:=by show(ze (((x.Text.getD i 0).toNat:Nat):Int)&&_)=true;unfold ze;rw[decide_eq_true (by omega)];rfl
   have hb:byteAt x.Text (i:Int)=(((x.Text.getD i 0).toNat:Nat):Int):=rfl;rw[if_pos (by omega),zb,if_pos (by omega),zo.2 ⟨by omega,by omega⟩,za];have hnn':(ze (byteAt x.Text (i:Int))&&decide (0<6))=true:=hnn;rw[hnn',za,hb,zo.2 ⟨by omega,by show _<((6:Nat):Int);omega⟩,za,za,zto,qA (by simp;omega),za,zg (by omega) (by omega),za];have e:picT (3::x.Text.take i)++[sy6 (x.Text.getD i 0)]=picT (3::x.Text.take (i+1)):=by rw[zlD hit];unfold picT;simp
   rw[e,show(i:Int)+1=((i+1:Nat):Int)by omega];exact zbi hn h24 z k (i+1) (by omega) (by omega)
  ·have:i=min n 12:=by omega
   subst this;by_cases h2:(((min n 12:Nat):Nat):Int)<(n:Int)
   ·rw[if_pos h2,zb,if_neg (by omega)];rfl
   ·rw[if_neg h2];rfl
theorem zqA(a b:Nat):Vj (a:Int) (b:Int)=((min a b:Nat):Int):=by unfold Vj;split<;>omega
theorem zch{N:Nat}(hN:3000<N){x:F_64}(hx:FX x):∃s z,Xb N x=some s∧MS s z∧z≤400∧s.Category=x.Kind%6∧(s.Category=3→z=s.Picture.length)∧
  (s.Category=4→JB N (fF x)=some s)∧(s.Category=5→QY N (fE x)=some s):=by
 have hk:=hx.k0;obtain⟨k,hk6⟩:=Wf (k:=6) hk (by decide);have hlt:k<6:=by omega
 have hn:Vj ((x.Text).length:Int) 24=((min x.Text.length 24:Nat):Int):=zqA _ 24;obtain⟨n,hn'⟩:∃n,n=min x.Text.length 24:=⟨_,rfl⟩
 rw[←hn']at hn;have hn24:n≤24:=by omega
 have hm:ji (n:Int) 1=((max n 1:Nat):Int):=by unfold ji;split<;>omega
 have key:∀t:Bool,t=decide ((k:Int)=1∨(k:Int)=2)→∃s z,Qe N (n:Int) (k:Int) t x z0 (Shape.mk (k:Int) 0 [] 0 0 false false false false false (n:Int))=some s∧MS s z∧z≤400∧s.Category=(k:Int)∧(s.Category=3→z=s.Picture.length)∧
   (s.Category=4→JB N (fF x)=some s)∧(s.Category=5→QY N (fE x)=some s):=by
  intro t ht;unfold Qe;dsimp only;have txt:∀(c:Int)(sym:UInt8),(c=1∧sym=65∨c=2∧sym=88)→∃s z,Qd N (n:Int) [sym] x z0 (Shape.mk c 0 [] 0 0 false false false false false (n:Int))=some s∧MS s z∧z≤400∧s.Category=c∧(s.Category=3→z=s.Picture.length)∧
    (s.Category=4→JB N (fF x)=some s)∧(s.Category=5→QY N (fE x)=some s):=by
   intro c sym hc;have hg:=zqS (m:=max n 1) (by omega) (by omega);refine⟨tx c (List.replicate (max n 1) sym) x.Just,max n 1,?_,?_,?_,rfl,fun e=>?_,fun e=>?_,fun e=>?_⟩
   ·unfold Qd;dsimp only;rw[hm];exact zbj (by omega) N 0 (by omega) (by omega)
   ·rcases hc with⟨rfl,rfl⟩|⟨rfl,rfl⟩
    ·have:=zsY hg.1 (.inl rfl) x.Just;rwa [List.length_replicate]at this
    ·have:=zsY hg.2 (.inr rfl) x.Just;rwa [List.length_replicate]at this
   ·omega
   ·have e:c=3:=e;omega
   ·have e:c=4:=e;omega
   ·have e:c=5:=e;omega
  cases t with
  |true=>
   have ht:=of_decide_eq_true ht.symm;rw[cond_true,zb];by_cases h2:(k:Int)=2
   ·rw[if_pos h2,h2];exact txt 2 88 (.inr ⟨rfl,rfl⟩)
   ·rw[if_neg h2];have h1:(k:Int)=1:=by omega
    rw[h1];exact txt 1 65 (.inl ⟨rfl,rfl⟩)
  |false=>
   have ht:=of_decide_eq_false ht.symm;rw[cond_false,zb];by_cases h3:(k:Int)=3
   ·rw[if_pos h3,h3];have hl3:=zbi (N:=N) (x:=x) (b1:=z0) (n:=n) (by omega) hn24 (n:Int) N 0 (by omega) (by omega);refine⟨tx 3 (picT (3::x.Text.take (min n 12))) false,(picT (3::x.Text.take (min n 12))).length,hl3,zuy (by rw[List.length_take];omega),?_,rfl,fun _=>rfl,(fun e=>by cases e),(fun e=>by cases e)⟩;unfold picT;simp;omega
   ·rw[if_neg h3,zb];by_cases h4:(k:Int)=4
    ·rw[if_pos h4,h4];have hf:=zgZ (N:=N) hN (x:=fF x) (dg:=x.Number_Digits.toNat) (fm:=x.Number_Form.toNat) (pt:=x.Number_Point.toNat) (by have:=hx.d0;show x.Number_Digits=_;omega) (by have:=hx.f0;show x.Number_Form=_;omega) (by have:=hx.f1;omega) (by have:=hx.p0;show x.Number_Point=_;omega) (by have:=hx.p1;omega) (by have:=hx.d1;omega);have h1:1≤x.Number_Digits.toNat%18+1:=by omega
     have h2:x.Number_Digits.toNat%18+1≤18:=by omega
     obtain⟨g1,g2,g3⟩:=zp0 (pt:=x.Number_Point.toNat) (fm:=x.Number_Form.toNat) h1 h2;obtain⟨z,hz⟩:=zs5 g2 g3 (by rw[g1.cat];decide) (by rcases g1.use with e|e|e<;>rw[e]<;>decide);have hcat:=g1.cat;refine⟨shX (x.Number_Digits.toNat%18+1) x.Number_Point.toNat x.Number_Form.toNat,z,?_,hz,hz.zl (by rw[hcat];decide),hcat,(fun e=>by rw[hcat]at e;cases e),fun _=>hf,(fun e=>by rw[hcat]at e;cases e)⟩;show bnd (JB N (fF x)) _=_;rw[hf,zc]
    ·rw[if_neg h4,zb];by_cases h5:(k:Int)=5
     ·rw[if_pos h5,h5];obtain⟨sg,w,mn,ni,pt,pa,hp⟩:=zs3 (x:=fE x) hx.s0 hx.o0 hx.w0 hx.m0 hx.n0 hx.t0 hx.a0;obtain⟨s,n',sc,g,e1,e2,e3,e4,e5⟩:=zg2 hN hp hx.ins;have hcat:=e3.cat;have hu:s.Usage=0:=by
       have:=zk4 e2;apply Classical.byContradiction;intro hu;unfold chkV at e2;rw[if_neg (fun h=>h this),if_neg (by omega)]at e2;unfold zcX at e2;split at e2
       ·rename_i hh;exact hh e2
       ·split at e2
        ·cases e2
        ·unfold Xj at e2;split at e2
         ·cases e2
         ·rw[if_pos ⟨hu,by omega⟩]at e2;cases e2
      obtain⟨z,hz⟩:=zs5 e2 (by omega) (by rw[hcat];decide) (by omega);refine⟨s,z,?_,hz,hz.zl (by rw[hcat];decide),hcat,(fun e=>by rw[hcat]at e;cases e),(fun e=>by rw[hcat]at e;cases e),fun _=>e1⟩;show bnd (QY N (fE x)) _=_;rw[e1,zc]
     ·have hk0:k=0:=by omega
      subst hk0;rw[if_neg h5];exact⟨gr n,n,rfl,ztI (by omega),by omega,rfl,(fun e=>by cases e),(fun e=>by cases e),(fun e=>by cases e)⟩
 have hnn:(ze x.Kind&&decide (0<6))=true:=by unfold ze;rw[decide_eq_true hk];rfl
 unfold Xb;rw[hnn,za,hn,hk6,zb];by_cases h1:(k:Int)=1
 ·rw[if_pos h1];exact key _ (decide_eq_decide.2 ⟨fun e=>.inl e,fun _=>h1⟩)
 ·rw[if_neg h1];exact key _ (decide_eq_decide.2 ⟨fun e=>.inr e,fun e=>by rcases e with e|e;exact absurd e h1;exact e⟩)
end Go.Proofs.C06
end
section
set_option maxRecDepth 100000
namespace Go.Proofs.C06
open Go Go.RowKit Go.Vc Go.Am Go.Dg
def fv(b:List UInt8)(sh:Int)(j:Nat):UInt8:=if sh≤(j:Int)∧(j:Int)-sh<(b.length:Int)then b.getD ((j:Int)-sh).toNat 0 else 32
end Go.Proofs.C06
end
section
set_option maxRecDepth 100000
namespace Go.Proofs.C06
open Go Go.RowKit Go.Vc Go.Am Go.Dg
theorem ztR{N:Nat}(hN:3000<N){x:F}(h1:0≤x.Digits)(h2:x.Digits≤255)(h3:0≤x.Point)(h4:x.Point≤255)(h5:0≤x.Form)(h6:x.Form≤255):
  ∃s n ng l,JB N x=some s∧NS s n∧chkV s=0∧s.Picture.length≤400∧Digs l∧l.length=n∧(ng=true→s.Signed=true∧val l≠0)∧fOf N x=some (fld s (wr s n ng l))∧znW N x=some (zjU s ng l):=by
 have hsh:=zgZ (N:=N) hN (x:=x) (dg:=x.Digits.toNat) (fm:=x.Form.toNat) (pt:=x.Point.toNat) (by omega) (by omega) (by omega) (by omega) (by omega) (by omega);obtain⟨n,hn⟩:∃n,n=x.Digits.toNat%18+1:=⟨_,rfl⟩
 obtain⟨l,ht,hd,hl⟩:=zkz (N:=N) hN (x:=x) h1;rw[←hn]at hsh hl;obtain⟨hns,hc,hp⟩:=zp0 (n:=n) (pt:=x.Point.toNat) (fm:=x.Form.toNat) (by omega) (by omega);generalize shX n x.Point.toNat x.Form.toNat=s at hsh hns hc hp;have h18:=hns.n18;have hsc1:=hns.sc1;have hsc2:=hns.sc2;have hk:(10:Nat)^(-s.Scale).toNat≠0:=Nat.ne_of_gt (pow_pos _);have hv:∀ng:Bool,QA N ng l s.Scale=some (yG (canon ng (val l*10^(-s.Scale).toNat) s.Scale.toNat)):=fun ng=>zgO hN ng hd (by omega) (by omega) (by omega)
 obtain⟨ng,hng⟩:∃ng,ng=(x.Neg&&(s.Signed&&decide (val l≠0))):=⟨_,rfl⟩
 refine⟨s,n,ng,l,hsh,hns,hc,hp,hd,hl,?_,?_,?_⟩
 ·intro e;rw[hng]at e;simp only[Bool.and_eq_true,decide_eq_true_eq]at e;exact e.2
 ·unfold fOf;rw[hsh,zc,ht,zc,zoO hN hns hd hl x.Neg,zc,←hng];rfl
 ·have e:∀g:Bool,(val l≠0→g=ng)→yG (canon g (val l*10^(-s.Scale).toNat) s.Scale.toNat)=zjU s ng l:=by intro g hg;unfold zjU;rw[zhc (fun h=>hg (fun e=>h (by rw[e,Nat.zero_mul])))]
  unfold znW;rw[hsh,zc];cases hxn:x.Neg with
  |true=>rw[cond_true,ht,zc,hv,zc,e s.Signed];intro h;rw[hng,hxn,decide_eq_true h,Bool.true_and,Bool.and_true]
  |false=>rw[cond_false,ht,zc,hv,zc,e false];intro _;rw[hng,hxn];rfl
theorem zqT{t:Shape}{n:Nat}(h:NS t n)(d:Decimal):X3 t n (wr t n (qJ t n d) (fmt n (ZK d n t.Scale)))=(grD (qJ t n d) (ZK d n t.Scale) t.Scale,0):=by have hv:=JU n _ (KV d n t.Scale);rw[zst h (jv _ _) (zG _ _) (fun e=>by unfold qJ at e;simp only[Bool.and_eq_true,decide_eq_true_eq]at e;exact⟨e.2,by rw[hv];exact e.1.2⟩)];unfold zjU grD;rw[hv]
end Go.Proofs.C06
end
section
set_option maxRecDepth 100000
namespace Go.Proofs.C06
open Go Go.RowKit Go.Vc Go.Am Go.Dg
theorem zhj{N:Nat}{x:F_64}{s:Shape}{z:Nat}(hs:s.Size=(z:Int))(hz:z≤1000000):∀(k i:Nat)(L:List UInt8),i≤z→z-i<k→L.length=z→
  ∃b,zci N k (i:Int) x 0 0 [] 0 0 false false false false false 0 s s.Category s.Usage s.Picture s.Digits s.Scale s.Signed s.Leading s.Separate s.Just s.Blank s.Size L=some (fld s b)∧b.length=z
 |0,i,_,_,hk,_=>by omega
 |k+1,i,L,hi,hk,hL=>by
  show∃b,zfA N (zci N k) _ x 0 0 [] 0 0 false false false false false 0 s _ _ _ _ _ _ _ _ _ _ _ L=some (fld s b)∧_;unfold zfA;rw[hs,zb];by_cases h:i<z
  ·have hi1:(i:Int)+1=((i+1:Nat):Int):=by omega
   have ih:∀L':List UInt8,L'.length=z→∃b,zci N k ((i+1:Nat):Int) x 0 0 [] 0 0 false false false false false 0 s s.Category s.Usage s.Picture s.Digits s.Scale s.Signed s.Leading s.Separate s.Just s.Blank (z:Int) L'=some (fld s b)∧b.length=z:=fun L' hL'=>by have:=zhj (N:=N) (x:=x) hs hz k (i+1) L' (by omega) (by omega) hL';rwa [hs]at this
   rw[if_pos (by omega),zo.2 ⟨by omega,by omega⟩,za];rw[show chk (true&&inKb .u8 32)=chk (true:Bool) (α:=Field)from rfl,za,zb];by_cases ht:0<(x.Text.length:Int)
   ·have hnn:(ze (i:Int)&&decide (0<(x.Text.length:Int)))=true:=by unfold ze;rw[decide_eq_true ht,decide_eq_true (by omega)];rfl
    have hmod:(i:Int)% (x.Text.length:Int)=((i%x.Text.length:Nat):Int):=by omega
    have hml:i%x.Text.length<x.Text.length:=Nat.mod_lt _ (by omega);have hbt:byteAt x.Text ((i%x.Text.length:Nat):Int)=(((x.Text.getD (i%x.Text.length) 0).toNat:Nat):Int):=rfl;rw[if_pos ht,hnn,za,hmod,zo.2 ⟨by omega,by omega⟩,za,List.length_set,zo.2 ⟨by omega,by omega⟩,za,hbt,jx,Bool.and_self,za,zg (by omega) (by omega),za,hi1];exact ih _ (by rw[List.length_set,List.length_set,hL])
   ·rw[if_neg ht,zg (by omega) (by omega),za,hi1];exact ih _ (by rw[List.length_set,hL])
  ·have:i=z:=by omega
   subst this;rw[if_neg (by omega)];exact⟨L,by rw[←hs];rfl,hL⟩
theorem zub{N:Nat}(hN:3000<N){x:F_64}(hx:FX x):∃s z b,Xb N x=some s∧MS s z∧z≤400∧s.Category=x.Kind%6∧FOf N x=some (fld s b)∧b.length=z:=by
 obtain⟨s,z,e1,hm,hz,hc,_,h4,h5⟩:=zch hN hx;have hS:=hm.siz;unfold FOf;rw[e1];by_cases c4:s.Category=4
 ·obtain⟨s',n,ng,l,f1,hs,hchk,hp,hd,hl,hng,f2,f3⟩:=ztR hN (x:=fF x) hx.d0 hx.d1 hx.p0 hx.p1 hx.f0 hx.f1;rw[h4 c4]at f1;cases f1;refine⟨s,z,wr s n ng l,rfl,hm,hz,hc,?_,?_⟩
  ·rw[zc,decide_eq_true c4,cond_true];show bnd (fOf N (fF x)) _=_;rw[f2,zc]
  ·rw[(znt hs hd hl hng).2,hm.sz4 hs]
 ·by_cases c5:s.Category=5
  ·obtain⟨sg,w,mn,ni,pt,pa,hp⟩:=zs3 (x:=fE x) hx.s0 hx.o0 hx.w0 hx.m0 hx.n0 hx.t0 hx.a0;obtain⟨s',n,sc,g,f1,f2,hES,h12,f5⟩:=zg2 hN hp hx.ins;rw[h5 c5]at f1;cases f1;obtain⟨l,e2,hld,hll⟩:=zkz hN (x:=fF x) hx.d0;obtain⟨d1,d2,d3⟩:=zuu hld h12;have hsc:=hES.scn;have hn1:=hES.n1;have hll2:l.length≤18:=by rw[hll];have:=Nat.mod_lt (fF x).Digits.toNat (show 0<18 by decide);omega
   generalize hds:(l++qe).take n=ds at d1 d2;have hq:val ds<10^n:=by have:=jL d1;rwa [d2]at this
   refine⟨s,z,Yq s (fmt n (val ds)) (x.Number_Neg&&decide (val ds≠0)),rfl,hm,hz,hc,?_,?_⟩
   ·rw[zc,decide_eq_false c4,cond_false,decide_eq_true c5,cond_true];show bnd (zcC N (fF x)) _=_;have htk:jb (l++qe) (n:Int)=ds:=hds;rw[e2,zc];show chk (zL l qe) (chk (zj 0 s.Digits (l++qe).length) (bnd (QA N x.Number_Neg (jb (l++qe) s.Digits) s.Scale) _))=_;rw[qA (by show _+12≤_;omega),za,hES.dig,d3,za,htk,hES.scl,ztf hN x.Number_Neg d1 (by omega) (by omega),zc,zrP hN hES f2 x.Number_Neg hq,zc];rw[←hES.dig,←hES.scl];rfl
   ·have:=zaY hES (jv n (val ds)) (zG n (val ds)) (x.Number_Neg&&decide (val ds≠0));omega
  ·obtain⟨b,g1,g2⟩:=zhj (N:=N) (x:=x) hS (by omega) N 0 (List.replicate z 0) (Nat.zero_le _) (by omega) List.length_replicate;refine⟨s,z,b,rfl,hm,hz,hc,?_,g2⟩;rw[zc,decide_eq_false c4,cond_false,decide_eq_false c5,cond_false];have hrep:(List.replicate s.Size.toNat (0:UInt8))=List.replicate z 0:=by rw[hS,Int.toNat_natCast]
   have hmk:(XN 1 s.Size&&decide (s.Size=s.Size))=true:=by rw[hS];exact zqz (by omega)
   rw[hmk,za,hrep];exact g1
def zD:Decimal:=Decimal.mk false [48] 0
theorem zm9:VD zD:=by have:=VD.of (neg:=false) (v:=0) (s:=0) (by decide) (by decide);exact this
theorem zsR{n:Nat}(c:UInt8)(hn:n≤100000000):zmV ([((c.toNat:Nat):Int)].map toByte) (n:Int)=some (List.replicate n c):=by
 have e:[((c.toNat:Nat):Int)].map toByte=[c]:=by show[toByte _]=[c];rw[jr]
 rw[e];show chk (decide ((0:Int)≤(n:Int))&&decide ((n:Int)≤140737488355328)) (some (List.replicate ((n:Int)).toNat c))=_;rw[decide_eq_true (by omega),decide_eq_true (by omega),Int.toNat_natCast];rfl
theorem zj5{N n:Nat}(c:UInt8)(hn:n≤100000000):zer N (n:Int) ((c.toNat:Nat):Int)=some (List.replicate n c,((c.toNat:Nat):Int)):=by unfold zer;rw[jx,Bool.and_self,za,zsR c hn,zc]
def rpV(s:Shape)(c:UInt8):List UInt8×Int:=if s.Category=4∨s.Category=5 then(if c≠48 then([],12)else if s.Category=5 then((edT s s.Digits.toNat false (yf zD s.Digits.toNat s.Scale.toNat)).getD [],0)else zjJ s s.Digits.toNat zD)else if s.Category=3 then(txt s.Picture (List.replicate s.Picture.length c),0)else(List.replicate s.Size.toNat c,0)
theorem zl8{N:Nat}(hN:3000<N){s:Shape}{z:Nat}(h:MS s z)(c:UInt8):Qy N ((c.toNat:Nat):Int) s=some (rpV s c):=by
 have hz:=h.zle;have hS:s.Size.toNat=z:=by have:=h.siz;omega
 have hp:=h.pic;have k0:∀t:Bool,t=decide (s.Category=4∨s.Category=5)→Js N s.Category t ((c.toNat:Nat):Int) s=some (rpV s c):=by
  intro t ht;unfold Js rpV;cases t with
  |true=>
   have ht:=of_decide_eq_true ht.symm;rw[cond_true,if_pos ht,zf];by_cases h48:c=48
   ·subst h48;rw[if_pos (show(((48:UInt8).toNat:Nat):Int)=48 from rfl),if_neg (fun e=>e rfl),zb];by_cases h5:s.Category=5
    ·obtain⟨n,sc,sg,hes⟩:=zaR h.chk h5;obtain⟨r,f1,f2⟩:=zbk hN hes h.chk zm9;have f1:edT s n false (yf zD n sc)=some r:=f1;have f2:VP N (Decimal.mk false [48] 0) s=some (r,0):=f2;rw[if_pos h5,if_pos h5,zn3,zc,f2,zc,hes.nat.1,hes.nat.2,f1];rfl
    ·have h4:s.Category=4:=by omega
     obtain⟨n,hns⟩:=zak h.chk h4 h.u0;have f2:zjk N (Decimal.mk false [48] 0) s=some (zjJ s n zD):=zhA hN hns h.chk h.pic zm9;rw[if_neg h5,if_neg h5,zn3,zc,f2,zc,hns.nat]
   ·have:¬(((c.toNat:Nat):Int)=48):=fun e=>h48 ((qF c 48 (by decide)).1 e)
    rw[if_neg this,if_pos h48]
  |false=>
   have ht:=of_decide_eq_false ht.symm;rw[cond_false,if_neg ht,zb];by_cases h3:s.Category=3
   ·have hk:=zqK h.chk h3;have hzz:=h.zl (by omega);rw[if_pos h3,if_pos h3,zj5 c (by omega),zc,zfB (by omega) h.pic _ (fun _=>by have:=h.siz;omega),if_neg (fun e=>e hk),zc]
   ·rw[if_neg h3,if_neg h3,h.siz,zj5 c (by omega),zc,clip_is,zc,Int.toNat_natCast]
 unfold Qy;rw[Qg (by omega) h.pic,h.chk,zc,decide_eq_true rfl,Bool.not_true,cond_false,zb];by_cases h4:s.Category=4
 ·rw[if_pos h4];exact k0 _ (decide_eq_decide.2 ⟨fun e=>.inl e,fun _=>h4⟩)
 ·rw[if_neg h4];exact k0 _ (decide_eq_decide.2 ⟨fun e=>.inr e,fun e=>by rcases e with e|e;exact absurd e h4;exact e⟩)
theorem zaF{N:Nat}(c:UInt8){n:Nat}(hn:n≤100000000):∀(k i:Nat)(L:List UInt8),i≤n→n-i<k→L.length=n→
  qT N k (n:Int) (i:Int) ((c.toNat:Nat):Int) L=some (L.take i++List.replicate (n-i) c,((c.toNat:Nat):Int))
 |0,i,_,_,hk,_=>by omega
 |k+1,i,L,hi,hk,hL=>by
  show Zq N (qT N k) _ _ _ L=_;unfold Zq;rw[zb];by_cases h:i<n
  ·rw[if_pos (by omega),zo.2 ⟨by omega,by omega⟩,za,jx,Bool.and_self,za,zg (by omega) (by omega),za,Int.toNat_natCast,jr,show(i:Int)+1=((i+1:Nat):Int)by omega,zaF c hn k (i+1) _ (by omega) (by omega) (by rw[List.length_set,hL])];congr 2;rw[List.take_add_one,List.getElem?_set,if_pos rfl,if_pos (by omega),List.take_set_of_le (Nat.le_refl _),List.append_assoc,show n-i=(n-(i+1))+1 by omega,List.replicate_succ];rfl
  ·have:i=n:=by omega
   subst this;rw[if_neg (by omega),Nat.sub_self,List.replicate_zero,List.append_nil,←hL,List.take_length]
theorem zgQ{N:Nat}(c:UInt8){n:Nat}(hn:n≤1000000)(hN:n<N):Wm N (n:Int) ((c.toNat:Nat):Int)=some (List.replicate n c,((c.toNat:Nat):Int)):=by unfold Wm;rw[zqz (by omega),za,Int.toNat_natCast];have:=zaF (N:=N) c (n:=n) (by omega) N 0 (List.replicate n 0) (Nat.zero_le _) (by omega) List.length_replicate;rw[show((0:Nat):Int)=0 from rfl,List.take_zero,List.nil_append,Nat.sub_zero]at this;exact this
theorem znk:∀(p b:List UInt8),(txt p b).length=p.length
 |[],_=>rfl
 |c::p,b=>by unfold txt;split<;>rw[List.length_cons,List.length_cons,znk p]
theorem zuG(n sc:Nat):yf zD n sc=0:=by
 unfold yf zD;have:quo (val (Decimal.mk false [48] 0).Digits) (Decimal.mk false [48] 0).Scale.toNat (sc:Int)=0:=by unfold quo;rw[show val (Decimal.mk false [48] 0).Digits=0 from rfl,Nat.zero_mul,Nat.zero_div]
 rw[this,Nat.zero_mod]
theorem zur(n:Nat){sc:Int}:ZF zD n sc∧quo (val zD.Digits) zD.Scale.toNat sc=0:=by
 have hq:quo (val zD.Digits) zD.Scale.toNat sc=0:=by unfold quo;rw[show val zD.Digits=0 from rfl,Nat.zero_mul,Nat.zero_div]
 refine⟨⟨?_,?_⟩,hq⟩
 ·unfold exact;rw[show val zD.Digits=0 from rfl,Nat.zero_mod]
 ·rw[hq];exact pow_pos n
theorem ztq{s:Shape}{z:Nat}(h:MS s z)(h3:s.Category=3→z=s.Picture.length){c:UInt8}(hc:¬((s.Category=4∨s.Category=5)∧c≠48)):(rpV s c).2=0∧(rpV s c).1.length=z:=by
 have hS:s.Size.toNat=z:=by have:=h.siz;omega
 unfold rpV;by_cases h45:s.Category=4∨s.Category=5
 ·rw[if_pos h45,if_neg (fun e=>hc ⟨h45,e⟩)];by_cases h5:s.Category=5
  ·obtain⟨n,sc,sg,hes⟩:=zaR h.chk h5;rw[if_pos h5,hes.nat.1,hes.nat.2,zuG,QS hes false (pow_pos n)];refine⟨rfl,?_⟩;have:=zaY hes (jv n 0) (zG n 0) (false&&decide ((0:Nat)≠0));show(Yq s (fmt n 0) (false&&decide ((0:Nat)≠0))).length=z;have:=h.siz;omega
  ·have h4:s.Category=4:=by omega
   obtain⟨n,hns⟩:=zak h.chk h4 h.u0;obtain⟨f1,f2⟩:=zur n (sc:=s.Scale);rw[if_neg h5,hns.nat];unfold zjJ;rw[if_pos f1,f2];refine⟨rfl,?_⟩;show(wr s n (false&&s.Signed) (fmt n 0)).length=z;rw[(znt hns (jv n 0) (zG n 0) (fun e=>by cases e)).2,h.sz4 hns]
 ·rw[if_neg h45];by_cases c3:s.Category=3
  ·rw[if_pos c3];exact⟨rfl,by rw[znk];exact (h3 c3).symm⟩
  ·rw[if_neg c3];exact⟨rfl,by rw[List.length_replicate,hS]⟩
theorem zeB(c0:Int)(y:F_64)(h0:0≤c0)(h1:c0≤255)(hy:FX y):∃N,yv N c0 y=some true:=by
 refine⟨4000,?_⟩;have hN:3000<4000:=by decide
 generalize hNN:(4000:Nat)=N at hN⊢;have hlv:(bnd (j8 N) fun rr=>some rr)=some true:=by rw[←hNN,zar,zc]
 obtain⟨c,rfl⟩:∃c:UInt8,c0=((c.toNat:Nat):Int):=⟨toByte c0,by unfold toByte;rw[UInt8.toNat_ofNat'];omega⟩
 obtain⟨s,z,e1,hm,hz,hcat,h3,_,_⟩:=zch hN hy;have hS:=hm.siz;have hST:s.Size.toNat=z:=by omega
 have hpic:=hm.pic;have fin:∀want:List UInt8,¬((s.Category=4∨s.Category=5)∧c≠48)→want=(rpV s c).1→yu N (rpV s c).1 (rpV s c).2 want s=some true∧qu N (rpV s c).1 (rpV s c).2 want s=some true:=by intro want hcc hw;obtain⟨r1,r2⟩:=ztq hm h3 hcc;unfold yu qu;rw[r1,decide_eq_true rfl,cond_true,decide_eq_true hw.symm,cond_true,decide_eq_true (show((rpV s c).1.length:Int)=s.Size by rw[r2,hS]),cond_true,decide_eq_true (show((rpV s c).1.length:Int)=((rpV s c).1.length:Int)from rfl),cond_true,hlv];exact⟨rfl,rfl⟩
 have k1:∀t:Bool,t=decide (s.Category=4∨s.Category=5)→qt N (rpV s c).1 (rpV s c).2 (List.replicate z c) s.Category t ((c.toNat:Nat):Int) s=some true:=by
  intro t ht;unfold qt;cases t with
  |true=>
   have ht:=of_decide_eq_true ht.symm;rw[cond_true,zf];by_cases h48:c=48
   ·subst h48;have hnn:¬((s.Category=4∨s.Category=5)∧(48:UInt8)≠48):=fun e=>e.2 rfl
    rw[if_pos (show(((48:UInt8).toNat:Nat):Int)=48 from rfl),zb];by_cases h4:s.Category=4
    ·obtain⟨n,hns⟩:=zak hm.chk h4 hm.u0;have f2:zjk N (Decimal.mk false [48] 0) s=some (zjJ s n zD):=zhA hN hns hm.chk hm.pic zm9;rw[if_pos h4,zn3,zc,f2,zc];refine(fin _ hnn ?_).1;unfold rpV;rw[if_pos ht,if_neg (fun e=>e rfl),if_neg (by omega),hns.nat]
    ·have h5:s.Category=5:=by omega
     obtain⟨n,sc,sg,hes⟩:=zaR hm.chk h5;obtain⟨r,f1,f2⟩:=zbk hN hes hm.chk zm9;have f1:edT s n false (yf zD n sc)=some r:=f1;have f2:VP N (Decimal.mk false [48] 0) s=some (r,0):=f2;rw[if_neg h4,zn3,zc,f2,zc];refine(fin _ hnn ?_).1;unfold rpV;rw[if_pos ht,if_neg (fun e=>e rfl),if_pos h5,hes.nat.1,hes.nat.2,f1];rfl
   ·have:¬(((c.toNat:Nat):Int)=48):=fun e=>h48 ((qF c 48 (by decide)).1 e)
    have hrp:rpV s c=([],12):=by unfold rpV;rw[if_pos ht,if_pos h48]
    rw[if_neg this,hrp];exact hlv
  |false=>
   have ht:=of_decide_eq_false ht.symm;have hnn:¬((s.Category=4∨s.Category=5)∧c≠48):=fun e=>ht e.1
   rw[cond_false,zb];by_cases c3:s.Category=3
   ·have hk:=zqK hm.chk c3;rw[if_pos c3,zgQ c (by omega) (by omega),zc,zfB (by omega) hm.pic _ (fun _=>by omega),if_neg (fun e=>e hk),zc];refine(fin _ hnn ?_).1;unfold rpV;rw[if_neg ht,if_pos c3]
   ·rw[if_neg c3];refine(fin _ hnn ?_).2;unfold rpV;rw[if_neg ht,if_neg c3,hST]
 unfold yv;rw[e1,zc,zl8 hN hm c,zc,hS,zgQ c (by omega) (by omega),zc,zb];by_cases h4:s.Category=4
 ·rw[if_pos h4];exact k1 _ (decide_eq_decide.2 ⟨fun e=>.inl e,fun _=>h4⟩)
 ·rw[if_neg h4];exact k1 _ (decide_eq_decide.2 ⟨fun e=>.inr e,fun e=>by rcases e with e|e;exact absurd e h4;exact e⟩)
end Go.Proofs.C06
end
section
set_option maxRecDepth 100000
namespace Go.Proofs.C06
open Go Go.RowKit Go.Vc Go.Am Go.Dg
theorem VX{t:Shape}{z:Nat}(h:MS t z)(h45:t.Category=4∨t.Category=5){d:Decimal}(_hd:VD d):(yz t d).2=0∧(yz t d).1.length=z:=by
 unfold yz;by_cases h5:t.Category=5
 ·obtain⟨n,sc,sg,hes⟩:=zaR h.chk h5;have hq:yf d n sc<10^n:=Nat.mod_lt _ (pow_pos n);rw[if_pos h5,hes.nat.1,hes.nat.2,QS hes d.Neg hq];have:=zaY hes (jv n (yf d n sc)) (zG n (yf d n sc)) (d.Neg&&decide (yf d n sc≠0));have:=h.siz;exact⟨rfl,by show(Yq t (fmt n (yf d n sc)) (d.Neg&&decide (yf d n sc≠0))).length=z;omega⟩
 ·have h4:t.Category=4:=by omega
  obtain⟨n,hns⟩:=zak h.chk h4 h.u0;have hv:=JU n _ (KV d n t.Scale);rw[if_neg h5,hns.nat];refine⟨rfl,?_⟩;show(wr t n (qJ t n d) (fmt n (ZK d n t.Scale))).length=z;rw[(znt hns (jv _ _) (zG _ _) (fun e=>by unfold qJ at e;simp only[Bool.and_eq_true,decide_eq_true_eq]at e;exact⟨e.2,by rw[hv];exact e.1.2⟩)).2,h.sz4 hns]
theorem zej{s:Shape}{z:Nat}(h:MS s z)(h0:s.Category≠0){b:List UInt8}(hb:b.length=z):(j7 s b).2=0→VD (j7 s b).1:=
 (zes (N:=4000) (by decide) h h0 hb).2
theorem zqw{s t:Shape}{z z':Nat}(h:MS s z)(h':MS t z'){b:List UInt8}(hb:b.length=z)(h3:t.Category≠3)(he:(mvV s t b).2=0):(mvV s t b).1.length=z':=by
 have hT:t.Size.toNat=z':=by have:=h'.siz;omega
 unfold mvV at he⊢;split at he
 ·cases he
 ·rename_i h1;rw[if_neg h1];split at he
  ·rename_i h2;rw[if_pos h2];show(fit b t.Size.toNat false).length=z';rw[znV,hT]
  ·rename_i h2;rw[if_neg h2];split at he
   ·rename_i h45;rw[if_pos h45];split at he
    ·rename_i hn;exact absurd he hn
    ·rename_i hn;rw[if_neg hn];exact (VX h' h45 (zej h h2 hb (Classical.byContradiction hn))).2
   ·rename_i h45;rw[if_neg h45];split at he
    ·rename_i hn;exact absurd he hn
    ·rename_i hn;rw[if_neg hn,if_neg h3];show(fit _ t.Size.toNat t.Just).length=z';rw[znV,hT]
theorem numOf_err{t:Shape}{z:Nat}(h:MS t z)(h45:t.Category=4∨t.Category=5){r:List UInt8}(hr:r.length=z):(j7 t r).2=0∨(j7 t r).2=15:=by
 unfold j7;by_cases h4:t.Category=4
 ·obtain⟨n,hns⟩:=zak h.chk h4 h.u0;rw[if_pos h4,hns.nat];have hrv:Jl t n r=if(rd t n r).2=true then((rd t n r).1,0)else(digits.mk false [],15):=by unfold Jl;rw[if_pos (by rw[hr,h.sz4 hns])]
  unfold X3;by_cases hk:(rd t n r).2=true
  ·rw[if_pos hk]at hrv;rw[hrv,if_pos rfl];exact .inl rfl
  ·rw[if_neg hk]at hrv;rw[hrv,if_neg (fun e=>by cases e)];exact .inr rfl
 ·have h5:t.Category=5:=by omega
  obtain⟨n,sc,sg,hes⟩:=zaR h.chk h5;rw[if_neg h4,if_pos h5,hes.nat.1,hes.nat.2];unfold za8;rw[if_neg (by have:=h.siz;omega)];split
  ·exact .inl rfl
  ·split
   ·exact .inl rfl
   ·exact .inr rfl
theorem zm3{t:Shape}(h0:0≤t.Category)(h5:t.Category≤5)(h3:t.Category≠3):Yv t t=true:=by
 unfold Yv;rw[if_neg (by rintro⟨h,_,e|e⟩<;>omega)];have:t.Category=0∨t.Category=1∨t.Category=2∨t.Category=4∨t.Category=5:=by omega
 rcases this with e|e|e|e|e<;>rw[e]<;>decide
theorem zjr{t:Shape}{z:Nat}(h:MS t z)(h45:t.Category=4∨t.Category=5){d:Decimal}(_hd:VD d):
  (j7 t (yz t d).1).2=0∧yz t (j7 t (yz t d).1).1=yz t d:=by
 by_cases h5:t.Category=5
 ·obtain⟨n,sc,sg,hes⟩:=zaR h.chk h5;have hsc:=hes.scn;have h18:=hes.n18;have hq:yf d n sc<10^n:=Nat.mod_lt _ (pow_pos n);have est:∀e:Decimal,yz t e=((edT t n e.Neg (yf e n sc)).getD [],0):=fun e=>by unfold yz;rw[if_pos h5,hes.nat.1,hes.nat.2]
  have hst:yz t d=(Yq t (fmt n (yf d n sc)) (d.Neg&&decide (yf d n sc≠0)),0):=by rw[est,QS hes d.Neg hq];rfl
  rw[hst];have hno:j7 t (Yq t (fmt n (yf d n sc)) (d.Neg&&decide (yf d n sc≠0)))=(gD (if Yq t (fmt n (yf d n sc)) false=Yq t (fmt n (yf d n sc)) (d.Neg&&decide (yf d n sc≠0))then false else true) (yf d n sc) sc,0):=by unfold j7;rw[if_neg (by omega),if_pos h5,hes.nat.1,hes.nat.2,zpp hes hq]
  dsimp only;rw[hno];refine⟨rfl,?_⟩;rw[est];dsimp only;rw[zqW (by omega) hq,QS hes _ hq,zbW];show(Yq t (fmt n (yf d n sc)) _,(0:Int))=_;congr 1;by_cases hf:Yq t (fmt n (yf d n sc)) false=Yq t (fmt n (yf d n sc)) (d.Neg&&decide (yf d n sc≠0))
  ·rw[if_pos hf,Bool.false_and,Bool.false_and,←hf]
  ·rw[if_neg hf,Bool.true_and,Bool.and_self];cases hdn:d.Neg with
   |false=>rw[hdn,Bool.false_and]at hf;exact absurd rfl hf
   |true=>rw[Bool.true_and]
 ·have h4:t.Category=4:=by omega
  obtain⟨n,hns⟩:=zak h.chk h4 h.u0;have hs1:=hns.sc1;have hs2:=hns.sc2;have est:∀e:Decimal,yz t e=(wr t n (qJ t n e) (fmt n (ZK e n t.Scale)),0):=fun e=>by unfold yz;rw[if_neg h5,hns.nat]
  rw[est];have hno:j7 t (wr t n (qJ t n d) (fmt n (ZK d n t.Scale)))=(grD (qJ t n d) (ZK d n t.Scale) t.Scale,0):=by unfold j7;rw[if_pos h4,hns.nat,zqT hns]
  dsimp only;rw[hno];refine⟨rfl,?_⟩;rw[est];obtain⟨f1,f2⟩:=znL (qJ t n d) (KV d n t.Scale) hs1 hs2;have hl:ZK (grD (qJ t n d) (ZK d n t.Scale) t.Scale) n t.Scale=ZK d n t.Scale:=by show quo _ _ _%10^n=_;rw[f2,Nat.mod_eq_of_lt (KV d n t.Scale)]
  have hn:qJ t n (grD (qJ t n d) (ZK d n t.Scale) t.Scale)=qJ t n d:=by show(((grD (qJ t n d) (ZK d n t.Scale) t.Scale).Neg&&decide (ZK (grD (qJ t n d) (ZK d n t.Scale) t.Scale) n t.Scale≠0))&&t.Signed)=_;rw[hl,znM];unfold qJ;cases d.Neg<;>cases t.Signed<;>cases decide (ZK d n t.Scale≠0)<;>rfl
  dsimp only;rw[hl,hn]
theorem zqv{s t:Shape}{z z':Nat}(h:MS s z)(h':MS t z'){b:List UInt8}(hb:b.length=z)(h3:t.Category≠3)(he:(mvV s t b).2=0):
  (¬(s.Category=0∧(t.Category=4∨t.Category=5))→mvV t t (mvV s t b).1=((mvV s t b).1,0))∧
  ((t.Category=4∨t.Category=5)→(mvV t t (mvV s t b).1).2=0∨(mvV t t (mvV s t b).1).2=15):=by
 have hlen:=zqw h h' hb h3 he;have hT:t.Size.toNat=z':=by have:=h'.siz;omega
 have hal:=zm3 h'.c0 h'.c5 h3;by_cases h45:t.Category=4∨t.Category=5
 ·have m2:∀r:List UInt8,mvV t t r=if(j7 t r).2≠0 then([],(j7 t r).2)else yz t (j7 t r).1:=fun r=>by unfold mvV;rw[if_neg (by rw[hal];decide),if_neg (by omega),if_pos h45]
  refine⟨fun hn=>?_,fun _=>?_⟩
  ·have h0:s.Category≠0:=fun e=>hn ⟨e,h45⟩
   have hst:(j7 s b).2=0∧mvV s t b=yz t (j7 s b).1:=by
    unfold mvV at he⊢;split at he
    ·cases he
    ·rename_i h1;rw[if_neg h1];simp only[if_neg h0,if_pos h45]at he⊢;split at he
     ·rename_i hn';exact absurd he hn'
     ·rename_i hn';rw[if_neg hn'];exact⟨Classical.byContradiction hn',rfl⟩
   have hvd:=zej h h0 hb hst.1;obtain⟨a1,a2⟩:=zjr h' h45 hvd;rw[hst.2,m2,if_neg (fun e=>e a1),a2];have:=(VX h' h45 hvd).1;exact Prod.ext rfl this
  ·rw[m2];rcases numOf_err h' h45 hlen with e|e
   ·rw[if_neg (fun k=>k e)];exact .inl (VX h' h45 (zej h' (by omega) hlen e)).1
   ·rw[if_pos (by rw[e];decide)];exact .inr e
 ·refine⟨fun _=>?_,fun e=>absurd e h45⟩;generalize (mvV s t b).1=r at hlen;unfold mvV;rw[if_neg (by rw[hal];decide)];by_cases h0:t.Category=0
  ·rw[if_pos h0,zkw (by rw[hlen,hT])]
  ·have et:Yg t t r=(r,0):=by unfold Yg;rw[if_pos (.inl (fun e=>h45 (.inl e)))]
   rw[if_neg h0,if_neg h45,et,if_neg (fun e=>e rfl),if_neg h3,zkw (by rw[hlen,hT])]
theorem zqH{N:Nat}{t:Shape}(h:t.Category=1):zia N t t=some true:=by unfold zia YF KY KX;rw[h];rfl
theorem zfW(x y:F_64)(hx:FX x)(hy:FX y):∃N,qs N x y=some true:=by
 refine⟨4000,?_⟩;have hN:3000<4000:=by decide
 generalize hNN:(4000:Nat)=N at hN⊢;have hlv:(bnd (j8 N) fun rr=>some rr)=some true:=by rw[←hNN,zar,zc]
 obtain⟨t,z',e1,hm',hz',_,_,_,_⟩:=zch hN hy;obtain⟨s,z,b,e2,hm,hz,_,e3,hb⟩:=zub hN hx;have k0:t.Category≠3→(mvV s t b).2=0→Zn N (mvV s t b).1 x t=some true:=by
  intro h3 he;obtain⟨w1,w2⟩:=zqv hm hm' hb h3 he;have hlen:=zqw hm hm' hb h3 he;generalize hr:(mvV s t b).1=r at w1 w2 hlen⊢;have hmv:zap N (fld t r) t=some (mvV t t r):=zj7 hN hm' hm' hlen;have k2:¬(s.Category=0∧(t.Category=4∨t.Category=5))→Zl N r (mvV t t r).1 (mvV t t r).2=some true:=by intro hn;unfold Zl;rw[w1 hn];dsimp only;rw[decide_eq_true rfl,cond_true,decide_eq_true rfl,cond_true,hlv]
  have k1:(mvV t t r).2≠15∨s.Category≠0→Zm N r (mvV t t r).1 (mvV t t r).2 x t=some true:=by
   intro h15;unfold Zm;rw[e2,zc,zb];by_cases h0:s.Category=0
   ·have h15:(mvV t t r).2≠15:=by rcases h15 with e|e;exact e;exact absurd h0 e
    rw[if_pos h0,zb];by_cases h4:t.Category=4
    ·have:(mvV t t r).2=0:=by rcases w2 (.inl h4)with e|e;exact e;exact absurd e h15
     rw[if_pos h4,this,decide_eq_true rfl,cond_true,hlv]
    ·rw[if_neg h4,zb];by_cases h5:t.Category=5
     ·have:(mvV t t r).2=0:=by rcases w2 (.inr h5)with e|e;exact e;exact absurd e h15
      rw[if_pos h5,this,decide_eq_true rfl,cond_true,hlv]
     ·rw[if_neg h5];exact k2 (by rintro⟨_,e|e⟩<;>contradiction)
   ·rw[if_neg h0];exact k2 (fun e=>h0 e.1)
  unfold Zn;refine Eq.trans (congrArg (fun o=>bnd o _) hmv) ?_;rw[zc,e2,zc,zb];by_cases h0:s.Category=0
  ·rw[if_pos h0,zb];by_cases h15:(mvV t t r).2=15
   ·rw[if_pos h15,hlv]
   ·rw[if_neg h15];exact k1 (.inl h15)
  ·rw[if_neg h0];exact k1 (.inr h0)
 unfold qs;rw[e1,zc,e3,zc,zj7 hN hm hm' hb,zc,zf];by_cases he:(mvV s t b).2=0
 ·rw[if_pos he,zb];by_cases h3:t.Category=3
  ·rw[if_pos h3,hlv]
  ·rw[if_neg h3,zb];by_cases h1:t.Category=1
   ·rw[if_pos h1,zqH h1,zc,Bool.not_true,cond_false];exact k0 h3 he
   ·rw[if_neg h1];exact k0 h3 he
 ·rw[if_neg he,hlv]
end Go.Proofs.C06
end
