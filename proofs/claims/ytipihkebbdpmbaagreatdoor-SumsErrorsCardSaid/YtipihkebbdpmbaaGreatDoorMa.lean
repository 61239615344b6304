/-
  A part of the proof of the laws.
-/
import Derived.Test.YtipihkebbdpmbaaGreatDoorEc
import Derived.Test.YtipihkebbdpmbaaGreatDoorUd
import Derived.Test.YtipihkebbdpmbaaGreatDoorS7
import Derived.Test.YtipihkebbdpmbaaGreatDoorUa
import Derived.Test.YtipihkebbdpmbaaGreatDoorEd
import Derived.Test.YtipihkebbdpmbaaGreatDoorEg
import Derived.Test.YtipihkebbdpmbaaGreatDoorCi
section
set_option maxRecDepth 100000
namespace Go.Proofs.C06
open Go Go.RowKit Go.Vc Go.Am Go.Dg
def cutK(d:Decimal)(s:Int):Nat:=((d.Scale.toNat:Int)-s).toNat
def KV(d:Decimal)(s:Int):Decimal:=gD d.Neg (val d.Digits/10^cutK d s*10^cutK d s) d.Scale.toNat
theorem zyZ{N:Nat}(hN:3000<N){d:Decimal}(hd:VD d){s:Int}(h1: -62≤s)(h2:s≤62):∃t,zem N d s=some (KV d s,t,0):=by
 obtain⟨x,e,e1,e2,e3⟩:=zgf hN hd (s:=s) (by omega) (by omega);have hf:=hd.form;obtain⟨g1,g2,g3,g4,g5,_⟩:=hd;refine⟨decide (val d.Digits%10^(d.Scale-s).toNat=0),?_⟩;rw[e1];by_cases h:d.Scale≤s
 ·obtain⟨rfl,rfl⟩:=e2 h;unfold KV gD;rw[show cutK x s=0 by unfold cutK;omega,Nat.pow_zero,Nat.div_one,Nat.mul_one,hf]
 ·obtain⟨m,hm,hx⟩:=e3 (by omega);have ek:(d.Scale-s).toNat=cutK d s:=by unfold cutK;omega
  rw[ek]at hm;have hv:val (d.Digits.take (d.Digits.length-m)++List.replicate m 48)=val d.Digits/10^cutK d s*10^cutK d s:=by
   rw[jG,(jm g2 (by omega)).1];rcases Nat.lt_or_ge d.Digits.length (cutK d s)with hlt|hge
   ·have hm':m=d.Digits.length:=by omega
    rw[hm',Nat.div_eq_of_lt (jw g2),Nat.div_eq_of_lt (zjh (Nat.le_refl _) g2 (by omega)),Nat.zero_mul,Nat.zero_mul]
   ·have hm':m=cutK d s:=by omega
    rw[hm']
  have e0:(-d.Scale).toNat=0:=by omega
  have hn:nrm d.Neg (d.Digits.take (d.Digits.length-m)++List.replicate m 48) d.Scale=(KV d s,0):=by
   rw[zda,hv,e0,Nat.pow_zero,Nat.mul_one]
   ·rfl
   ·rw[hv,e0,Nat.pow_zero,Nat.mul_one];refine yN (by decide) (zjh (Nat.div_mul_le_self _ _) g2 g3)
   ·exact Nat.le_trans (ji _ _ _) (by omega)
  rw[hn]at hx;cases hx;rfl
theorem zCK(v S:Nat){s:Int}(hS:S≤62)(h1: -62≤s):v/10^((S:Int)-s).toNat*10^((S:Int)-s).toNat*10^(62+s).toNat=quo v S s*10^(62+S):=by
 unfold quo;by_cases h:s≤S
 ·rw[show(s-(S:Int)).toNat=0 by omega,Nat.pow_zero,Nat.mul_one,Nat.mul_assoc,←Nat.pow_add,show((S:Int)-s).toNat+(62+s).toNat=62+S by omega]
 ·rw[show((S:Int)-s).toNat=0 by omega,Nat.pow_zero,Nat.div_one,Nat.mul_one,Nat.div_one,Nat.mul_assoc,←Nat.pow_add,show(s-(S:Int)).toNat+(62+S)=(62+s).toNat by omega]
theorem zoE{d:Decimal}(hd:VD d){s:Int}(h1: -62≤s)(h2:s≤62):VD (KV d s)∧exact (val (KV d s).Digits) (KV d s).Scale.toNat s∧quo (val (KV d s).Digits) (KV d s).Scale.toNat s=quo (val d.Digits) d.Scale.toNat s:=by
 obtain⟨g1,g2,g3,g4,g5,_⟩:=hd;have hS62:d.Scale.toNat≤62:=by omega
 have hvd:VD (KV d s):=VD.of (yN (by decide) (zjh (Nat.div_mul_le_self _ _) g2 g3)) (Nat.le_trans (ji _ _ _) (by omega));have hg:=zl4 d.Neg (val d.Digits/10^cutK d s*10^cutK d s) hS62;have hS':(KV d s).Scale.toNat≤62:=by have:=hvd.2.2.2.2.1;omega
 have key:val (KV d s).Digits*10^(62+s).toNat=quo (val d.Digits) d.Scale.toNat s*10^(62+(KV d s).Scale.toNat):=by
  refine Nat.eq_of_mul_eq_mul_right (pow_pos (62+(d.Scale.toNat:Int)).toNat) ?_;have hg':val (KV d s).Digits*10^(62+(d.Scale.toNat:Int)).toNat=val d.Digits/10^cutK d s*10^cutK d s*10^(62+(KV d s).Scale.toNat):=hg;have e1:(62+(d.Scale.toNat:Int)).toNat=62+d.Scale.toNat:=by omega
  rw[Nat.mul_right_comm,hg',Nat.mul_right_comm,Nat.mul_right_comm (quo _ _ _),e1];congr 1;exact zCK (val d.Digits) d.Scale.toNat hS62 h1
 exact⟨hvd,((ZO (n:=quo (val d.Digits) d.Scale.toNat s) hS' (by omega) (by omega)).2 ⟨_,JQ _,key⟩).1,zkv hS' (by omega) (by omega) key⟩
def grD(ng:Bool)(q:Nat)(sc:Int):Decimal:=yQ (canon ng (q*10^(-sc).toNat) sc.toNat)
theorem zxv{N:Nat}(hN:3000<N){d:Decimal}(hd:VD d){n:Nat}{sc:Int}(h1:1≤n)(h18:n≤18)(hs1: -18≤sc)(hs:sc≤18)(he:exact (val d.Digits) d.Scale.toNat sc):
  ziB N d (n:Int) sc=some (grD d.Neg (quo (val d.Digits) d.Scale.toNat sc%10^n) sc,0):=by
 obtain⟨t,e1,e2,e3,e4,e5⟩:=(Vz hN hd (n:=n) (s:=sc) (by omega) (by omega) (by omega)).1 he;have hl:d.Digits.length≤1000:=by have:=hd.2.2.1;omega
 unfold ziB;rw[Vr hN hl h1 (by omega) (by omega) (by omega),if_pos hd,zc,zp,if_pos rfl,e1,zc];dsimp only;have hin:zw ((t.length:Int)-(n:Int)) (t.length:Int) t.length=true:=by unfold zw;simp<;>omega
 have hv:val (t.drop (t.length-n))=quo (val d.Digits) d.Scale.toNat sc%10^n:=by rw[(jm e2 e4).2,e3]
 have hlt:quo (val d.Digits) d.Scale.toNat sc%10^n<10^n:=Nat.mod_lt _ (pow_pos n);have hne:t.drop (t.length-n)≠[]:=by intro h;have:=congrArg List.length h;rw[List.length_drop,List.length_nil]at this;omega
 have h10:(10:Nat)^n≤10^18:=Nat.pow_le_pow_right (by decide) h18;have hvd:=zch (ng:=d.Neg) (q:=quo (val d.Digits) d.Scale.toNat sc%10^n) (sc:=sc) (by omega) hs1 hs;obtain⟨_,_,v3,_,v5,_⟩:=hvd;have v3:(canon d.Neg (quo (val d.Digits) d.Scale.toNat sc%10^n*10^(-sc).toNat) sc.toNat).2.1.length≤62:=v3;rw[Bool.not_true,cond_false,zu (by omega) (by omega),za,hin,za,QE _ e4,zge hN _ (e2.drop _) hne (by rw[List.length_drop];omega) (by omega) (by omega),zc,zda,hv]
 ·rfl
 ·rw[hv];exact v3
 ·exact Nat.le_trans (ji _ _ _) (by omega)
def zC0(d:Decimal)(n:Nat)(sc:Int):Nat:=quo (val d.Digits) d.Scale.toNat sc%10^n
def zyf(s:Shape)(n:Nat)(d:Decimal):Bool:=(d.Neg&&decide (zC0 d n s.Scale≠0))&&s.Signed
theorem zl3(ng:Bool)(q:Nat)(sc:Int):(grD ng q sc).Neg=(ng&&decide (q≠0)):=by show(canon ng (q*10^(-sc).toNat) sc.toNat).1=_;rw[zh5];congr 1;exact decide_eq_decide.2 ⟨fun h e=>h (by rw[e,Nat.zero_mul]),fun h=>Nat.mul_ne_zero h (Nat.ne_of_gt (pow_pos _))⟩
theorem zCZ(d:Decimal)(n:Nat)(sc:Int):zC0 d n sc<10^n:=Nat.mod_lt _ (pow_pos n)
theorem zyt{ng:Bool}{q n:Nat}{sc:Int}(hq:q<10^n)(hn:n≤18)(h1: -18≤sc)(h2:sc≤18):VD (grD ng q sc):=by have h10:(10:Nat)^n≤10^18:=Nat.pow_le_pow_right (by decide) hn;exact zch (by omega) h1 h2
theorem zC9(ng:Bool){q n:Nat}{sc:Int}(hq:q<10^n)(h1: -18≤sc)(h2:sc≤18):Yy (grD ng q sc) n sc∧quo (val (grD ng q sc).Digits) (grD ng q sc).Scale.toNat sc=q:=by refine⟨(zt0 ng q n h1 h2).2 hq,?_⟩;have hg:=zah ng q (sc:=sc) (by omega);have hcs:=ji ng (q*10^(-sc).toNat) sc.toNat;show quo (val (canon ng (q*10^(-sc).toNat) sc.toNat).2.1) (((canon ng (q*10^(-sc).toNat) sc.toNat).2.2:Int)).toNat sc=q;rw[Int.toNat_natCast];exact zkv (by omega) (by omega) (by omega) hg
theorem zxU(s:Shape){n q:Nat}(ng:Bool)(hq:q<10^n)(h1: -18≤s.Scale)(h2:s.Scale≤18):zCL s n (grD ng q s.Scale)=(wr s n ((ng&&decide (q≠0))&&s.Signed) (fmt n q),0):=by obtain⟨f1,f2⟩:=zC9 ng hq h1 h2;unfold zCL;rw[if_pos f1,f2,zl3]
end Go.Proofs.C06
end
section
set_option maxRecDepth 100000
namespace Go.Proofs.C06
open Go Go.RowKit Go.Vc Go.Am Go.Dg
theorem ztO(N:Nat){a b c:Nat}(ha:a≤9)(hb:b≤9)(hc:c≤1):∃d c':Nat,zlN N (a:Int) (b:Int) (c:Int)=some ((d:Int),(c':Int))∧d≤9∧c'≤1∧d+b+c=a+10*c':=by
 unfold zlN;by_cases h:a<b+c
 ·refine⟨a+10-b-c,1,?_,by omega,by omega,by omega⟩;rw[zu (by omega) (by omega),za,zu (by omega) (by omega),za,zb,if_pos (by omega),zu (by omega) (by omega),za,
   show(a:Int)-b-c+10=((a+10-b-c:Nat):Int)by omega]
  rfl
 ·refine⟨a-b-c,0,?_,by omega,by omega,by omega⟩;rw[zu (by omega) (by omega),za,zu (by omega) (by omega),za,zb,if_neg (by omega),za,za,
   show(a:Int)-b-c=((a-b-c:Nat):Int)by omega]
  rfl
theorem YC{N L:Nat}{x y:List UInt8}(hx:Digs x)(hy:Digs y)(hxl:x.length=L)(hyl:y.length=L)(hL:L≤1000):∀(k t c:Nat)(b:List UInt8),t≤L→L-t<k→b.length=L→Digs (b.drop (L-t))→c≤1→
  val (b.drop (L-t))+val y%10^t=val x%10^t+c*10^t→
  ∃(r:List UInt8)(c':Nat),j2 N k x y (c:Int) (L:Int) (t:Int) b=some (r,(c':Int))∧Digs r∧r.length=L∧c'≤1∧val r+val y=val x+c'*10^L
 |0,t,c,b,_,hk,_,_,_,_=>by omega
 |k+1,t,c,b,ht,hk,hb,hD,hc,hv=>by
  show∃(r:List UInt8)(c':Nat),Zq N (j2 N k) x y (c:Int) (L:Int) (t:Int) b=_∧_;unfold Zq;rw[zb];by_cases h:t<L
  ·have hi:L-1-t<L:=by omega
   have dX:=yh hx (i:=L-1-t) (by omega);have dY:=yh hy (i:=L-1-t) (by omega);have eX:byteAt x ((L-1-t:Nat):Int)-48=(((x.getD (L-1-t) 0).toNat-48:Nat):Int):=by rw[jb];omega
   have eY:byteAt y ((L-1-t:Nat):Int)-48=(((y.getD (L-1-t) 0).toNat-48:Nat):Int):=by rw[jb];omega
   have lX:=zb4 hx (t:=t) (by omega);have lY:=zb4 hy (t:=t) (by omega);rw[hxl]at lX;rw[hyl]at lY;generalize (x.getD (L-1-t) 0).toNat=p at dX eX lX;generalize (y.getD (L-1-t) 0).toNat=q at dY eY lY;obtain⟨w,c',m1,m2,m3,m4⟩:=ztO N (a:=p-48) (b:=q-48) (c:=c) (by omega) (by omega) hc;have eR:(48:Int)+(w:Int)=((48+w:Nat):Int):=by omega
   rw[if_pos (by omega),hxl,show((L:Nat):Int)-1-(t:Int)=((L-1-t:Nat):Int)by omega,zu (by omega) (by omega),za,zu (by omega) (by omega),za,zZ hi,za,eX,jv (by omega) (by omega),zu (by omega) (by omega),za,
    hyl,zZ hi,za,eY,jv (by omega) (by omega),zu (by omega) (by omega),za,m1,zc]
   dsimp only;rw[eR,zu (by omega) (by omega),za,hb,zZ hi,za,jv (by omega) (by omega),
    Ql (by omega) (by omega),Bool.and_self,za,zu (by omega) (by omega),za,Int.toNat_natCast,Y5,show(t:Int)+1=((t+1:Nat):Int)by omega]
   have hdr:(b.set (L-1-t) (UInt8.ofNat (48+w))).drop (L-(t+1))=UInt8.ofNat (48+w)::b.drop (L-t):=by rw[show L-(t+1)=L-1-t by omega,zmq (by rw[List.length_set];omega),List.getD_eq_getElem?_getD,List.getElem?_set_self (by omega),List.drop_set_of_lt (by omega),show L-1-t+1=L-t by omega];rfl
   have hdg:=QF (d:=w) (by omega);refine YC hx hy hxl hyl hL k (t+1) c' _ (by omega) (by omega) (by rw[List.length_set];exact hb) ?_ m3 ?_
   ·rw[hdr];exact Digs.cons.2 ⟨by rw[hdg];omega,hD⟩
   ·rw[hdr,jN,hdg,List.length_drop,hb,show L-(L-t)=t by omega,show 48+w-48=w by omega,lX,lY];have e:=congrArg (· *10^t) m4;simp only[Nat.add_mul]at e;have e10:c'*10^(t+1)=10*c'*10^t:=by rw[Nat.pow_succ,Nat.mul_comm (10^t) 10,←Nat.mul_assoc,Nat.mul_comm c' 10]
    rw[e10];omega
  ·have htL:t=L:=by omega
   subst htL;have e1:val x%10^t=val x:=Nat.mod_eq_of_lt (hxl▸jw hx);have e2:val y%10^t=val y:=Nat.mod_eq_of_lt (hyl▸jw hy);rw[Nat.sub_self,List.drop_zero]at hD hv;rw[e1,e2]at hv;rw[if_neg (by omega)];exact⟨b,c,rfl,hD,hb,hc,hv⟩
theorem zjJ{N L:Nat}(hN:3000<N){x y:List UInt8}(hx:Digs x)(hy:Digs y)(hxl:x.length=L)(hyl:y.length=L)(hL:L≤1000)(hle:val y≤val x):
  ∃r,zac N x y=some r∧Digs r∧r.length=L∧val r=val x-val y:=by
 unfold zac KX;have e2:zej 1 (x.length:Int)=true:=by show(Nat.ble (1*x.length) 281474976710656&&Nat.ble x.length 9223372036854775807)=true;rw[Nat.ble_eq_true_of_le (by omega),Nat.ble_eq_true_of_le (by omega)];rfl
 rw[e2,decide_eq_true rfl,Bool.and_self,za,Int.toNat_natCast,hxl];obtain⟨r,c',h1,h2,h3,h4,h5⟩:=YC (N:=N) hx hy hxl hyl hL N 0 0 (List.replicate L 0) (by omega) (by omega) (by rw[List.length_replicate]) (by rw[Nat.sub_zero,List.drop_of_length_le (by rw[List.length_replicate];omega)];exact Digs.nil) (by omega)
  (by rw[Nat.sub_zero,List.drop_of_length_le (by rw[List.length_replicate];omega),Nat.pow_zero,Nat.mod_one,Nat.mod_one,zay])
 have h1':j2 N N x y 0 (L:Int) 0 (List.replicate L 0)=some (r,(c':Int)):=h1;rw[h1',zc];have hr:val r<10^L:=h3▸jw h2;refine⟨r,rfl,h2,h3,?_⟩;rcases(show c'=0∨c'=1 by omega)with rfl|rfl
 ·omega
 ·omega
theorem zy1{N:Nat}(hN:3000<N){a b:Decimal}(ha:VD a)(hb:VD b):∃ng l,zmt N a b=some (nrm ng l ((maxS a b:Nat):Int))∧
  ((a.Neg=b.Neg∧ng=a.Neg∧val l=alD a (maxS a b)+alD b (maxS a b))∨(a.Neg≠b.Neg∧alD b (maxS a b)≤alD a (maxS a b)∧ng=a.Neg∧val l=alD a (maxS a b)-alD b (maxS a b))∨
   (a.Neg≠b.Neg∧alD a (maxS a b)<alD b (maxS a b)∧ng=b.Neg∧val l=alD b (maxS a b)-alD a (maxS a b))):=by
 by_cases hs:a.Neg=b.Neg
 ·obtain⟨l,h1,h2⟩:=zDs hN ha hb hs;exact⟨_,l,h1,.inl ⟨hs,rfl,h2⟩⟩
 ·obtain⟨L,hL0,hL,h1,h2,h3⟩:=zid (N:=N) ha hb;have hM:maxS a b≤62:=by have:=ha.2.2.2.2.1;have:=hb.2.2.2.2.1;unfold maxS;omega
  have v1:=yZ _ _ h1;have v2:=yZ _ _ h2;have f1:=jI L (alD a (maxS a b));have f2:=jI L (alD b (maxS a b));have hlt:=znT f1 f2 ((zK L (alD a (maxS a b))).trans (zK L (alD b (maxS a b))).symm);rw[v1,v2]at hlt;have start:zmt N a b=cond (!(Op.bytesLess (fmt L (alD a (maxS a b))) (fmt L (alD b (maxS a b)))))
    (bnd (zac N (fmt L (alD a (maxS a b))) (fmt L (alD b (maxS a b)))) fun rr4=>bnd (qc N a.Neg rr4 ((maxS a b:Nat):Int)) fun rr5=>some (rr5.1,rr5.2))
    (bnd (zac N (fmt L (alD b (maxS a b))) (fmt L (alD a (maxS a b)))) fun rr4=>bnd (qc N b.Neg rr4 ((maxS a b:Nat):Int)) fun rr5=>some (rr5.1,rr5.2)):=by
   unfold zmt;rw[zoB hN ha hb,zc,show(!decide ((0:Int)=0))=false by rfl];show(bnd (Wh N a b) _)=_;rw[h3,zc,decide_eq_false hs];rfl
  rw[start];cases hb2:Op.bytesLess (fmt L (alD a (maxS a b))) (fmt L (alD b (maxS a b)))with
  |true=>have hl:=hlt.1 hb2;obtain⟨r,r1,r2,r3,r4⟩:=zjJ (N:=N) (L:=L) hN f2 f1 (zK _ _) (zK _ _) (by omega) (by rw[v1,v2];omega);rw[Bool.not_true,cond_false,r1,zc,Zo hN b.Neg r2 (s:=((maxS a b:Nat):Int)) (by omega) (by omega) (by omega),zc];exact⟨_,r,rfl,.inr (.inr ⟨hs,hl,rfl,by rw[r4,v1,v2]⟩)⟩
  |false=>
   have hl:¬alD a (maxS a b)<alD b (maxS a b):=fun h=>by rw[hlt.2 h]at hb2;cases hb2
   obtain⟨r,r1,r2,r3,r4⟩:=zjJ (N:=N) (L:=L) hN f1 f2 (zK _ _) (zK _ _) (by omega) (by rw[v1,v2];omega);rw[Bool.not_false,cond_true,r1,zc,Zo hN a.Neg r2 (s:=((maxS a b:Nat):Int)) (by omega) (by omega) (by omega),zc];exact⟨_,r,rfl,.inr (.inl ⟨hs,by omega,rfl,by rw[r4,v1,v2]⟩)⟩
def Gr(d:Decimal)(sc:Int):Prop:=∃q,val d.Digits*10^(62+sc).toNat=q*10^(62+d.Scale.toNat)
theorem zci{d:Decimal}(hd:VD d){sc:Int}(h1: -62≤sc)(h2:sc≤62):Gr d sc↔exact (val d.Digits) d.Scale.toNat sc:=by
 have hS:d.Scale.toNat≤62:=by have:=hd.2.2.2.2.1;omega
 constructor
 ·rintro⟨q,h⟩;exact ((ZO (n:=q) hS h1 h2).2 ⟨q,JQ q,h⟩).1
 ·intro h;obtain⟨q,_,e⟩:=(ZO (n:=quo (val d.Digits) d.Scale.toNat sc) hS h1 h2).1 ⟨h,JQ _⟩;exact⟨q,e⟩
theorem zEI{ng:Bool}{l:List UInt8}{s:Int}(h:(nrm ng l s).2=0):VD (nrm ng l s).1:=by
 unfold nrm at h⊢;split at h
 ·cases h
 ·rename_i hc;rw[if_neg hc];exact VD.of (by omega) (by omega)
theorem zg7{ng:Bool}{l:List UInt8}{M:Nat}(h:(nrm ng l (M:Int)).2=0){sc:Int}{q:Nat}(hq:val l*10^(62+sc).toNat=q*10^(62+M)):Gr (nrm ng l (M:Int)).1 sc:=by
 unfold nrm at h⊢;split at h
 ·cases h
 ·rename_i hc;rw[if_neg hc];have e0:(-(M:Int)).toNat=0:=by omega
  have eM:((M:Int)).toNat=M:=by omega
  rw[e0,Nat.pow_zero,Nat.mul_one,eM];have hv:=Wc ng (val l) M;refine⟨q,?_⟩;show val (canon ng (val l) M).2.1*10^(62+sc).toNat=q*10^(62+(((canon ng (val l) M).2.2:Nat):Int).toNat);rw[Int.toNat_natCast];refine Nat.eq_of_mul_eq_mul_right (pow_pos M) ?_;rw[Nat.mul_right_comm,hv,Nat.mul_right_comm,hq,Nat.pow_add,Nat.pow_add];simp only[Nat.mul_assoc,Nat.mul_comm,Nat.mul_left_comm]
theorem zsZ{d:Decimal}{sc:Int}{M q:Nat}(hM:d.Scale.toNat≤M)(h:val d.Digits*10^(62+sc).toNat=q*10^(62+d.Scale.toNat)):alD d M*10^(62+sc).toNat=q*10^(62+M):=by unfold alD;rw[Nat.mul_right_comm,h,Nat.mul_assoc,←Nat.pow_add,show 62+d.Scale.toNat+(M-d.Scale.toNat)=62+M by omega]
theorem zzp{N:Nat}(hN:3000<N){a b:Decimal}(ha:VD a)(hb:VD b){sc:Int}(ga:Gr a sc)(gb:Gr b sc):∃r e,zmt N a b=some (r,e)∧(e=0→VD r∧Gr r sc):=by
 obtain⟨ng,l,h1,h2⟩:=zy1 hN ha hb;obtain⟨qa,ea⟩:=ga;obtain⟨qb,eb⟩:=gb;have ea:=zsZ (M:=maxS a b) (by unfold maxS;omega) ea;have eb:=zsZ (M:=maxS a b) (by unfold maxS;omega) eb;refine⟨_,_,h1,fun he=>⟨zEI he,?_⟩⟩;rcases h2 with⟨_,_,hv⟩|⟨_,hle,_,hv⟩|⟨_,hle,_,hv⟩
 ·exact zg7 he (q:=qa+qb) (by rw[hv,Nat.add_mul,ea,eb,Nat.add_mul])
 ·exact zg7 he (q:=qa-qb) (by rw[hv,Nat.sub_mul,ea,eb,Nat.sub_mul])
 ·exact zg7 he (q:=qb-qa) (by rw[hv,Nat.sub_mul,ea,eb,Nat.sub_mul])
theorem zpF{N:Nat}{d:Decimal}(hd:VD d){sc:Int}(h1: -62≤sc)(h:sc<d.Scale):∃r,zrF N d sc=some r:=by
 obtain⟨g1,g2,g3,g4,g5,_⟩:=hd;obtain⟨m,hm⟩:∃m:Nat,d.Scale-sc=(m:Int):=⟨(d.Scale-sc).toNat,by omega⟩
 have hm1:1≤m:=by omega
 unfold zrF;rw[hm,zu (by omega) (by omega),za,zb];by_cases hl:(d.Digits.length:Int)<(m:Int)
 ·rw[if_pos hl];exact⟨_,rfl⟩
 ·have hin1:zw ((d.Digits.length:Int)-(m:Int)) (d.Digits.length:Int) d.Digits.length=true:=by unfold zw;simp<;>omega
  have hlen:(d.Digits.drop (d.Digits.length-m)).length=m:=by rw[List.length_drop];omega
  rw[if_neg hl,zu (by omega) (by omega),za,hin1,za,QE _ (by omega),hlen,show zA 0 m=true from zZ (i:=0) (by omega),za,zb];split
  ·exact⟨_,rfl⟩
  ·rw[za,zb];split
   ·exact⟨_,rfl⟩
   ·have hin2:zw 1 (m:Int) m=true:=by unfold zw;simp<;>omega
    obtain⟨t,e1,_⟩:=zrx (s:=(d.Digits.drop (d.Digits.length-m)).drop 1) (by rw[List.length_drop,hlen];omega) ((g2.drop _).drop _);rw[hin2,za,show zM (d.Digits.drop (d.Digits.length-m)) 1=(d.Digits.drop (d.Digits.length-m)).drop 1 from rfl,e1,zc];cases(!decide (t=[]))<;>exact⟨_,rfl⟩
theorem ztw{N:Nat}{d:Decimal}(hd:VD d){sc:Int}(h1: -62≤sc)(h2:sc≤62):∃r,zCI N d sc=some r:=by
 obtain⟨g1,g2,g3,g4,g5,_⟩:=hd;unfold zCI;rw[zu (by omega) (by omega),za,zu (by omega) (by omega),za,zu (by omega) (by omega),za,zb];split
 ·rw[zb];split
  ·obtain⟨i,hi⟩:∃i:Nat,(d.Digits.length:Int)-1-(d.Scale-sc)=(i:Int):=⟨((d.Digits.length:Int)-1-(d.Scale-sc)).toNat,by omega⟩
   have hlt:i<d.Digits.length:=by omega
   have dg:=yh g2 hlt;have e:byteAt d.Digits (i:Int)-48=(((d.Digits.getD i 0).toNat-48:Nat):Int):=by rw[jb];omega
   rw[hi,zZ hlt,za,e,jv (by omega) (by omega),show(zj (((d.Digits.getD i 0).toNat-48:Nat):Int)&&decide (0<2))=true by simp only[zj,Bool.and_eq_true,decide_eq_true_eq];omega,za];exact⟨_,rfl⟩
  ·exact⟨_,rfl⟩
 ·exact⟨_,rfl⟩
theorem zpH{N:Nat}{d near:Decimal}(hd:VD d)(hn:VD near){sc:Int}(h1: -62≤sc)(h2:sc≤62)(h:sc<d.Scale)(m:Int):∃r,zrG N d near sc m=some r:=by
 obtain⟨r,e⟩:=zpF (N:=N) hd h1 h;obtain⟨r1,e1⟩:=ztw (N:=N) hn h1 h2;unfold zrG;rw[e,zc,e1];simp only[zb,zc]
 repeat' split
 all_goals exact⟨_,rfl⟩
theorem ztv{N:Nat}(hN:3000<N){d:Decimal}(hd:VD d){sc:Int}(h1: -18≤sc)(h2:sc≤18){m:Int}(hm:m≤7):∃near e,zgP N d sc m=some (near,e)∧(e=0→VD near∧Gr near sc):=by
 obtain⟨t,ht⟩:=zyZ hN hd (s:=sc) (by omega) (by omega);obtain⟨c1,c2,c3⟩:=zoE hd (s:=sc) (by omega) (by omega);have hg:=(zci c1 (by omega) (by omega)).2 c2;have htt:t=false→sc<d.Scale:=by
  intro e;obtain⟨x,e0,w1,_⟩:=zgf hN hd (s:=sc) (by omega) (by omega);rw[ht]at w1;by_cases hle:d.Scale≤sc
  ·have hx:t=decide (val d.Digits%10^(d.Scale-sc).toNat=0):=by injection w1 with w1;injection w1 with _ w1;injection w1
   rw[show(d.Scale-sc).toNat=0 by omega,Nat.pow_zero,Nat.mod_one,e]at hx;cases hx
  ·omega
 unfold zgP;rw[show WP N d 1 sc=some 0 from(Vr hN (n:=1) (by have:=hd.2.2.1;omega) (by omega) (by omega) (by omega) (by omega)).trans (by rw[if_pos hd]),zc];show∃near e,cond (decide (7<m)) _ (bnd (zem N d sc) _)=_∧_;rw[zb,if_neg (by omega),ht,zc];show∃near e,Qa N sc m 0 t d (Decimal.mk false [] 0) (KV d sc)=_∧_;unfold Qa;cases t with
 |true=>exact⟨_,_,rfl,fun _=>⟨c1,hg⟩⟩
 |false=>
  rw[cond_false,zb];split
  ·exact⟨_,_,rfl,fun h=>by cases h⟩
  ·obtain⟨r,e⟩:=zpH (N:=N) hd c1 (sc:=sc) (by omega) (by omega) (htt rfl) m;rw[e,zc];cases r with
   |false=>exact⟨_,_,rfl,fun _=>⟨c1,hg⟩⟩
   |true=>
    have hst:nrm d.Neg [49] sc=(yQ (canon d.Neg (1*10^(-sc).toNat) sc.toNat),0):=by
     have hv:=zch (ng:=d.Neg) (q:=1) (sc:=sc) (by decide) h1 h2;have hv3:=hv.2.2.1;have hv5:=hv.2.2.2.2.1;refine zda (l:=[49]) ?_ ?_
     ·exact hv3
     ·have:((canon d.Neg (1*10^(-sc).toNat) sc.toNat).2.2:Int)≤62:=hv5;have e1:val [49]=1:=rfl;rw[e1];omega
    rw[zge hN d.Neg (l:=[49]) (by decide) (by simp) (by simp) (by omega) (by omega),hst,zc];show∃near e,bnd (zmt N (KV d sc) (yQ (canon d.Neg (1*10^(-sc).toNat) sc.toNat))) _=_∧_;obtain⟨r,e',q1,q2⟩:=zzp hN c1 (zch (ng:=d.Neg) (q:=1) (sc:=sc) (by decide) h1 h2) (sc:=sc) hg ⟨1,by
     have:=zah d.Neg 1 (sc:=sc) (by omega);show val (canon d.Neg (1*10^(-sc).toNat) sc.toNat).2.1*_=1*10^(62+(((canon d.Neg (1*10^(-sc).toNat) sc.toNat).2.2:Nat):Int).toNat);rw[Int.toNat_natCast];exact this⟩
    rw[q1,zc];exact⟨r,e',rfl,q2⟩
end Go.Proofs.C06
end
section
set_option maxRecDepth 100000
namespace Go.Proofs.C06
open Go Go.RowKit Go.Vc Go.Am Go.Dg
def fit(b:List UInt8)(n:Nat)(left:Bool):List UInt8:=if left=true then List.replicate (n-b.length) 32++b.drop (b.length-n)else b.take n++List.replicate (n-b.length) 32
end Go.Proofs.C06
end
section
set_option maxRecDepth 100000
namespace Go.Proofs.C06
open Go Go.RowKit Go.Vc Go.Am Go.Dg
structure MS(s:Shape)(z:Nat):Prop where
 chk:chkV s=0
 pic:s.Picture.length≤400
 siz:s.Size=(z:Int)
 c0:0≤s.Category
 c5:s.Category≤5
 u0:0≤s.Usage
 zle:z≤1048576
 zl:s.Category≠0→z≤400
theorem zoI{s:Shape}(h:chkV s=0):ZG s=0:=by
 unfold chkV at h;by_cases hE:ZG s=0
 ·exact hE
 ·rw[if_pos hE]at h;exact absurd h hE
theorem zDM{s:Shape}(h:chkV s=0)(hp:s.Picture.length≤400)(hc:0≤s.Category)(hu:0≤s.Usage):∃z,MS s z:=by
 have hE:=zoI h;have hE':=hE;unfold ZG at hE;split at hE
 ·cases hE
 ·rename_i h1;split at hE
  ·cases hE
  ·rename_i h2;split at hE
   ·cases hE
   ·rename_i h3;by_cases h0:s.Category=0
    ·refine⟨s.Size.toNat,h,hp,by omega,hc,by omega,hu,by omega,fun e=>absurd h0 e⟩
    ·have hs:=zA6 h h0;have hz:0≤sizeV s∧sizeV s≤400:=by
      unfold sizeV;rw[if_neg h0];split
      ·have:szN s.Picture≤s.Picture.length:=by unfold szN;omega
       omega
      ·repeat' split
       all_goals omega
     refine⟨s.Size.toNat,h,hp,by omega,hc,by omega,hu,by omega,fun _=>by omega⟩
theorem NS.nat{s:Shape}{n:Nat}(h:NS s n):s.Digits.toNat=n:=by have:=h.dig;omega
theorem ES.nat{s:Shape}{n sc:Nat}{sg:Bool}(h:ES s n sc sg):s.Digits.toNat=n∧s.Scale.toNat=sc:=by have:=h.dig;have:=h.scl;omega
theorem zzD{s:Shape}{n:Nat}(h:NS s n):szV s n≤300:=by
 have:=h.n18;unfold szV Y0
 repeat' split
 all_goals omega
theorem MS.sz4{s:Shape}{z n:Nat}(h:MS s z)(hn:NS s n):z=szV s n:=by have h1:=h.siz;have h2:=hn.size;omega
def zkf(t:Shape)(d:Decimal):List UInt8×Int:=if t.Category=5 then((edT t t.Digits.toNat d.Neg (zb5 d t.Digits.toNat t.Scale.toNat)).getD [],0)else(wr t t.Digits.toNat (zyf t t.Digits.toNat d) (fmt t.Digits.toNat (zC0 d t.Digits.toNat t.Scale)),0)
end Go.Proofs.C06
end
section
set_option maxRecDepth 100000
namespace Go.Proofs.C06
open Go Go.RowKit Go.Vc Go.Am Go.Dg
end Go.Proofs.C06
end
section
set_option maxRecDepth 100000
namespace Go.Proofs.C06
open Go Go.RowKit Go.Vc Go.Am Go.Dg
end Go.Proofs.C06
end
section
set_option maxRecDepth 100000
namespace Go.Proofs.C06
open Go Go.RowKit Go.Vc Go.Am Go.Dg
end Go.Proofs.C06
end
section
set_option maxRecDepth 100000
namespace Go.Proofs.C06
open Go Go.RowKit Go.Vc Go.Am Go.Dg
end Go.Proofs.C06
end
section
set_option maxRecDepth 100000
namespace Go.Proofs.C06
open Go Go.RowKit Go.Vc Go.Am Go.Dg
theorem zpl{t:Shape}{z:Nat}(h:MS t z)(h45:t.Category=4∨t.Category=5){d:Decimal}(_hd:VD d):(zkf t d).2=0∧(zkf t d).1.length=z:=by
 unfold zkf;by_cases h5:t.Category=5
 ·obtain⟨n,sc,sg,hes⟩:=zDQ h.chk h5;have hq:zb5 d n sc<10^n:=Nat.mod_lt _ (pow_pos n);rw[if_pos h5,hes.nat.1,hes.nat.2,zDo hes d.Neg hq];have:=zyU hes (jI n (zb5 d n sc)) (zK n (zb5 d n sc)) (d.Neg&&decide (zb5 d n sc≠0));have:=h.siz;exact⟨rfl,by show(zyV t (fmt n (zb5 d n sc)) (d.Neg&&decide (zb5 d n sc≠0))).length=z;omega⟩
 ·have h4:t.Category=4:=by omega
  obtain⟨n,hns⟩:=zFB h.chk h4 h.u0;have hv:=yZ n _ (zCZ d n t.Scale);rw[if_neg h5,hns.nat];refine⟨rfl,?_⟩;show(wr t n (zyf t n d) (fmt n (zC0 d n t.Scale))).length=z;rw[(zxs hns (jI _ _) (zK _ _) (fun e=>by unfold zyf at e;simp only[Bool.and_eq_true,decide_eq_true_eq]at e;exact⟨e.2,by rw[hv];exact e.1.2⟩)).2,h.sz4 hns]
end Go.Proofs.C06
end
section
set_option maxRecDepth 100000
namespace Go.Proofs.C06
open Go Go.RowKit Go.Vc Go.Am Go.Dg
structure IX(x:Item):Prop where
 d0:0≤x.Number_Digits
 d1:x.Number_Digits≤255
 p0:0≤x.Number_Point
 p1:x.Number_Point≤255
 f0:0≤x.Number_Form
 f1:x.Number_Form≤255
 s0:0≤x.Show_Sign
 o0:0≤x.Show_Dollar
 w0:0≤x.Show_Whole
 m0:0≤x.Show_Many
 n0:0≤x.Show_Nines
 t0:0≤x.Show_Point
 a0:0≤x.Show_Part
 ins:∀v∈x.Show_Insert,0≤v∧v≤65535
theorem zEZ{s:Shape}(h:chkV s=0)(h5:s.Category=5):s.Usage=0:=by
 have:=zoI h;apply Classical.byContradiction;intro hu;unfold chkV at h;rw[if_neg (fun h=>h this),if_neg (by omega)]at h;unfold zhf at h;split at h
 ·rename_i hh;exact hh h
 ·split at h
  ·cases h
  ·unfold Kb at h;split at h
   ·cases h
   ·rw[if_pos ⟨hu,by omega⟩]at h;cases h
theorem ztY{N:Nat}(hN:3000<N){x:Item}(hx:IX x):∃s z,zl2 N x=some s∧MS s z∧((x.Edited=false∧∃n,NS s n)∨(x.Edited=true∧∃n sc sg,ES s n sc sg)):=by
 unfold zl2;cases hE:x.Edited with
 |false=>have hf:=zt7 (N:=N) hN (x:=F.mk x.Number_Digits x.Number_Point x.Number_Form x.Number_Neg x.Number_Value) (dg:=x.Number_Digits.toNat) (fm:=x.Number_Form.toNat) (pt:=x.Number_Point.toNat) (by have:=hx.d0;show x.Number_Digits=_;omega) (by have:=hx.f0;show x.Number_Form=_;omega) (by have:=hx.f1;omega) (by have:=hx.p0;show x.Number_Point=_;omega) (by have:=hx.p1;omega) (by have:=hx.d1;omega);obtain⟨g1,g2,g3⟩:=zEn (n:=x.Number_Digits.toNat%18+1) (pt:=x.Number_Point.toNat) (fm:=x.Number_Form.toNat) (by omega) (by omega);obtain⟨z,hz⟩:=zDM g2 g3 (by rw[g1.cat];decide) (by rcases g1.use with e|e|e<;>rw[e]<;>decide);rw[cond_false,hf,zc];exact⟨_,z,rfl,hz,.inl ⟨rfl,_,g1⟩⟩
 |true=>obtain⟨sg,w,mn,ni,pt,pa,hp⟩:=zFz (x:=E.mk x.Show_Sign x.Show_Dollar x.Show_Whole x.Show_Many x.Show_Nines x.Show_Point x.Show_Part x.Show_Insert x.Show_Blank) hx.s0 hx.o0 hx.w0 hx.m0 hx.n0 hx.t0 hx.a0;obtain⟨s,n',sc,g,e1,e2,e3,e4,e5⟩:=zuf hN hp hx.ins;obtain⟨z,hz⟩:=zDM e2 (by omega) (by rw[e3.cat];decide) (by rw[zEZ e2 e3.cat];decide);rw[cond_true,e1,zc];exact⟨s,z,rfl,hz,.inr ⟨rfl,_,_,_,e3⟩⟩
theorem zoa(ng ng':Bool)(q:Nat)(sc:Int):(grD ng q sc).Digits=(grD ng' q sc).Digits∧(grD ng q sc).Scale=(grD ng' q sc).Scale:=by unfold grD yQ canon;split<;>exact⟨rfl,rfl⟩
theorem zys{N:Nat}(hN:3000<N){s:Shape}{z:Nat}(h:MS s z){d:Decimal}(hd:VD d)(hg:Gr d s.Scale)(hc:(∃n,NS s n)∨∃n sc sg,ES s n sc sg):
  ∃fits low b,zdJ N d s.Digits s.Scale=some (fits,0)∧ziB N d s.Digits s.Scale=some (low,0)∧b.length=z∧((∃n sc sg,ES s n sc sg)→zii N low s=some (b,0))∧
   ((∃n,NS s n)→ztf N low s=some (b,0)∧∃r,zth N (fld s b)=some (r,0)∧r.Neg=(low.Neg&&s.Signed)∧r.Digits=low.Digits∧r.Scale=low.Scale):=by
 rcases hc with⟨n,hn⟩|⟨n,sc,sg,hn⟩
 ·have h1:=hn.sc1;have h2:=hn.sc2;have h18:=hn.n18;have hx:=(zci hd (by omega) (by omega)).1 hg;have hq:quo (val d.Digits) d.Scale.toNat s.Scale%10^n<10^n:=Nat.mod_lt _ (pow_pos n);have hl:=zxv hN hd hn.n1 h18 h1 h2 hx;generalize quo (val d.Digits) d.Scale.toNat s.Scale%10^n=q at hq hl;have hlv:=zyt (ng:=d.Neg) hq h18 h1 h2;have hp:=zzw hN hn h.chk h.pic hlv;rw[zxU s d.Neg hq h1 h2]at hp;have hng:((d.Neg&&decide (q≠0))&&s.Signed)=true→s.Signed=true∧val (fmt n q)≠0:=by intro e;simp only[Bool.and_eq_true,decide_eq_true_eq]at e;rw[yZ n _ hq];exact⟨e.2,e.1.2⟩
  have hw:=(zxs hn (jI n q) (zK n q) hng).2;have hz:=h.sz4 hn;have h300:=zzD hn;have hget:=zzy hN hn h.chk h.pic (b:=wr s n ((d.Neg&&decide (q≠0))&&s.Signed) (fmt n q)) (by omega);rw[zDa hn (jI n q) (zK n q) hng]at hget;have e:ztJ s ((d.Neg&&decide (q≠0))&&s.Signed) (fmt n q)=grD ((d.Neg&&decide (q≠0))&&s.Signed) q s.Scale:=by unfold ztJ grD;rw[yZ n _ hq]
  rw[e]at hget;rw[hn.dig];refine⟨_,_,_,zgQ hN hd hn.n1 (by omega) (by omega) (by omega),hl,by omega,?_,fun _=>⟨hp,_,hget,?_,(zoa _ _ _ _).1,(zoa _ _ _ _).2⟩⟩
  ·rintro⟨n',sc',sg',h'⟩;have h5:=h'.cat;have h4:=hn.cat;omega
  ·rw[zl3,zl3];cases d.Neg<;>cases s.Signed<;>simp
 ·have h18:=hn.n18;have hsc:=hn.scl;have hscn:=hn.scn;have hx:=(zci hd (by omega) (by omega)).1 hg;have hq:quo (val d.Digits) d.Scale.toNat s.Scale%10^n<10^n:=Nat.mod_lt _ (pow_pos n);have hl:=zxv hN hd hn.n1 h18 (by omega) (by omega) hx;generalize quo (val d.Digits) d.Scale.toNat s.Scale%10^n=q at hq hl;have hlv:=zyt (ng:=d.Neg) hq h18 (sc:=s.Scale) (by omega) (by omega);obtain⟨r,e1,e2⟩:=zzr hN hn h.chk hlv;have hlen:=(zpl h (.inr hn.cat) hlv).2;unfold zkf at hlen;rw[if_pos hn.cat,hn.nat.1,hn.nat.2,e1]at hlen;rw[hn.dig];refine⟨_,_,r,zgQ hN hd hn.n1 (by omega) (by omega) (by omega),hl,hlen,fun _=>e2,?_⟩;rintro⟨n',h'⟩;have h5:=hn.cat;have h4:=h'.cat;omega
theorem zkq{N:Nat}(_hN:3000<N){s:Shape}{z:Nat}(_h:MS s z){d:Decimal}{fits:Bool}{low:Decimal}{b:List UInt8}(wrong:Bool)
  (hf:zdJ N d s.Digits s.Scale=some (fits,0)) (hl:ziB N d s.Digits s.Scale=some (low,0)) (hc:(∃n,NS s n)∨∃n sc sg,ES s n sc sg)
  (hE:(∃n sc sg,ES s n sc sg)→zii N low s=some (b,0)) (hP:(∃n,NS s n)→ztf N low s=some (b,0)):Jm N wrong s d=some (b,(wrong||!fits),0):=by
 unfold Jm;rw[hf,zc,hl,zc,zb];rcases hc with hc|hc
 ·obtain⟨n,hn⟩:=id hc;have h4:=hn.cat;rw[if_neg (by omega)];unfold Kh;rw[hP hc,zc];cases wrong<;>rfl
 ·obtain⟨n,sc,sg,hn⟩:=id hc;rw[if_pos hn.cat];unfold zcT;rw[hE hc,zc];cases wrong<;>rfl
theorem ziH(y:Num)(x:Item)(m:Int)(hy:0≤y.Scale)(hx:IX x)(hm:0≤m):∃N,qL N y x m=some true:=by
 refine⟨4000,?_⟩;have hN:3000<4000:=by decide
 generalize (4000:Nat)=N at hN⊢;obtain⟨d,hd1,hd⟩:=zEK (N:=N) hN hy;obtain⟨s,z,hs1,hs,hE⟩:=ztY (N:=N) hN hx;have hc:(∃n,NS s n)∨∃n sc sg,ES s n sc sg:=by
  rcases hE with⟨_,h⟩|⟨_,h⟩
  ·exact .inl h
  ·exact .inr h
 have hsc: -18≤s.Scale∧s.Scale≤18:=by
  rcases hc with⟨n,hn⟩|⟨n,sc,sg,hn⟩
  ·exact⟨hn.sc1,hn.sc2⟩
  ·have:=hn.scl;have:=hn.scn;have:=hn.n18;omega
 obtain⟨near,e,hr,hre⟩:=ztv (N:=N) hN hd hsc.1 hsc.2 (m:=m%8) (by omega);obtain⟨t,ht⟩:=zyZ (N:=N) hN hd (s:=s.Scale) (by omega) (by omega);obtain⟨c1,c2,c3⟩:=zoE hd (s:=s.Scale) (by omega) (by omega);have hcg:=(zci c1 (by omega) (by omega)).2 c2;have hcat:s.Category=4∨s.Category=5:=by
  rcases hc with⟨n,hn⟩|⟨n,sc,sg,hn⟩
  ·exact .inl hn.cat
  ·exact .inr hn.cat
 obtain⟨v,hv,hvg,hvs,hvl⟩:∃v,VD v∧Gr v s.Scale∧q9 N (m%8) d s=Jm N (!decide (e=0)) s v∧
   (∀b w k,(cond (!decide (e=0)) (bnd (zem N d s.Scale) fun rr8=>yz N b w k (!decide (e=0)) x s rr8.1) (yz N b w k (!decide (e=0)) x s near))=yz N b w k (!decide (e=0)) x s v):=by
  by_cases he:e=0
  ·obtain⟨g1,g2⟩:=hre he;refine⟨near,g1,g2,?_,fun b w k=>?_⟩
   ·unfold q9;rw[hr,zc];dsimp only;rw[decide_eq_true he];rfl
   ·rw[decide_eq_true he];rfl
  ·refine⟨KV d s.Scale,c1,hcg,?_,fun b w k=>?_⟩
   ·unfold q9;rw[hr,zc];dsimp only;rw[decide_eq_false he,ht,zc];rfl
   ·rw[decide_eq_false he,ht,zc];rfl
 obtain⟨fits,low,b,h1,h2,h3,h4,h5⟩:=zys (N:=N) hN hs hv hvg hc;have hst:zkr N d s (m%8)=some (b,((!decide (e=0))||!fits),0):=by
  unfold zkr;rw[Js hN (by have:=hd.2.2.1;omega),if_pos hd,zc];show bnd (zij N s) _=_;rw[zdA (by omega) hs.pic,hs.chk,zc];show Jl N (m%8) (decide (7<m%8)) d s=_;unfold Jl;rw[decide_eq_false (by omega),cond_false,zp,zp];have hk:q9 N (m%8) d s=some (b,((!decide (e=0))||!fits),0):=by rw[hvs];exact zkq hN hs _ h1 h2 hc h4 (fun h=>(h5 h).1)
  rcases hcat with h|h
  ·rw[if_pos h,hk]
  ·rw[if_neg (by omega),if_pos h,hk]
 have e8:(zj m&&decide (0<8))=true:=by simp only[zj,Bool.and_eq_true,decide_eq_true_eq];omega
 unfold qL;rw[hd1,zc,hs1,zc,e8,za,hst,zc,hr,zc];dsimp only;rw[hvl];unfold yz;rw[h1,zc,h2,zc];have hsz:=hs.siz;have key:ZM N b x s low=some true:=by
  unfold ZM;rcases hE with⟨hE,hn⟩|⟨hE,hn⟩
  ·obtain⟨_,r,g1,g2,g3,g4⟩:=h5 hn;have g1':zth N (Field.mk s.Category s.Usage s.Picture s.Digits s.Scale s.Signed s.Leading s.Separate s.Just s.Blank s.Size b)=some (r,0):=g1;rw[hE,cond_false,g1',zc];unfold Yt;cases hsg:s.Signed with
   |false=>rw[hsg,Bool.and_false]at g2;rw[Bool.not_false,cond_true];dsimp only;rw[decide_eq_true rfl,cond_true,g2,g3,g4];simp
   |true=>rw[hsg,Bool.and_true]at g2;rw[Bool.not_true,cond_false];dsimp only;rw[decide_eq_true rfl,cond_true,g2,g3,g4];simp
  ·rw[hE,cond_true,h4 hn,zc];simp
 dsimp only;have eb:decide ((b.length:Int)=s.Size)=true:=decide_eq_true (by omega);rw[eb,key];generalize decide (e=0)=q;cases q<;>cases fits<;>simp
end Go.Proofs.C06
end
section
set_option maxRecDepth 100000
namespace Go.Proofs.C06
open Go Go.RowKit Go.Vc Go.Am Go.Dg
theorem readV_code(s:Shape)(n:Nat)(b:List UInt8):(XR s n b).2=0∨(XR s n b).2=15∨(XR s n b).2=5:=by
 unfold XR;split
 ·split
  ·exact .inl rfl
  ·exact .inr (.inl rfl)
 ·exact .inr (.inr rfl)
theorem zGA(s:Shape)(n:Nat)(b:List UInt8):(zDb s n b).2≠1:=by
 unfold zDb;split
 ·exact fun h=>by cases h
 ·rcases readV_code s n b with h|h|h<;>rw[h]<;>decide
theorem zGB{N:Nat}(hN:3000<N){s:Shape}(hp:s.Picture.length≤400)(hu:0≤s.Usage){b:List UInt8}(hb:b.length≤300):
  ∃x own,zth N (fld s b)=some (x,own)∧((own=1)↔chkV s≠0):=by
 by_cases hk:chkV s=0
 ·by_cases h4:s.Category=4
  ·obtain⟨n,hn⟩:=zFB hk h4 hu;exact⟨_,_,zzy hN hn hk hp hb,⟨fun h=>absurd h (zGA s n b),fun h=>absurd hk h⟩⟩
  ·refine⟨zrp,12,?_,⟨(fun h=>by cases h),fun h=>absurd hk h⟩⟩;unfold zth;show bnd (zi0 N s) _=_;rw[zm3 hN hp,if_pos hk,if_neg h4,zc];rfl
 ·refine⟨zrp,1,?_,⟨fun _=>hk,fun _=>rfl⟩⟩;unfold zth;show bnd (zi0 N s) _=_;rw[zm3 hN hp,if_neg hk,zc];rfl
theorem zGw{N:Nat}(hN:3000<N){d:Decimal}(hl:d.Digits.length≤100){s:Shape}(hp:s.Picture.length≤400)(hc:0≤s.Category)(hu:0≤s.Usage){m:Int}(hm:0≤m):
  ∃b w,zkr N d s m=some (b,w,if¬VD d∨chkV s≠0∨7<m then 1 else if s.Category=4∨s.Category=5 then 0 else 12):=by
 unfold zkr;rw[Js hN (by omega),zc];by_cases hd:VD d
 ·rw[if_pos hd];show∃b w,bnd (zij N s) _=_;rw[zdA (by omega) hp,zc];by_cases hk:chkV s=0
  ·rw[hk];show∃b w,Jl N m (decide (7<m)) d s=_;unfold Jl;by_cases h7:7<m
   ·rw[decide_eq_true h7,cond_true,if_pos (.inr (.inr h7))];exact⟨_,_,rfl⟩
   ·rw[decide_eq_false h7,cond_false,if_neg (by rintro(h|h|h);exact h hd;exact h rfl;exact h7 h),zp,zp];by_cases h45:s.Category=4∨s.Category=5
    ·rw[if_pos h45];obtain⟨z,hz⟩:=zDM hk hp hc hu;have hcc:(∃n,NS s n)∨∃n sc sg,ES s n sc sg:=by
      rcases h45 with h|h
      ·exact .inl (zFB hk h hu)
      ·exact .inr (zDQ hk h)
     have hsc: -18≤s.Scale∧s.Scale≤18:=by
      rcases hcc with⟨n,hn⟩|⟨n,sc,sg,hn⟩
      ·exact⟨hn.sc1,hn.sc2⟩
      ·have:=hn.scl;have:=hn.scn;have:=hn.n18;omega
     have k0:∃b w,q9 N m d s=some (b,w,0):=by
      obtain⟨near,e,hr,hre⟩:=ztv (N:=N) hN hd hsc.1 hsc.2 (m:=m) (by omega);obtain⟨t,ht⟩:=zyZ (N:=N) hN hd (s:=s.Scale) (by omega) (by omega);obtain⟨c1,c2,c3⟩:=zoE hd (s:=s.Scale) (by omega) (by omega);have hcg:=(zci c1 (by omega) (by omega)).2 c2;unfold q9;rw[hr,zc];dsimp only;by_cases he:e=0
      ·obtain⟨g1,g2⟩:=hre he;obtain⟨fits,low,b,h1,h2,h3,h4,h5⟩:=zys (N:=N) hN hz g1 g2 hcc;rw[decide_eq_true he];exact⟨_,_,zkq hN hz _ h1 h2 hcc h4 (fun h=>(h5 h).1)⟩
      ·obtain⟨fits,low,b,h1,h2,h3,h4,h5⟩:=zys (N:=N) hN hz c1 hcg hcc;rw[decide_eq_false he,Bool.not_false,cond_true,ht,zc];exact⟨_,_,zkq hN hz _ h1 h2 hcc h4 (fun h=>(h5 h).1)⟩
     obtain⟨b,w,hk0⟩:=k0;rcases h45 with h|h
     ·rw[if_pos h,hk0];exact⟨_,_,rfl⟩
     ·rw[if_neg (by omega),if_pos h,hk0];exact⟨_,_,rfl⟩
    ·rw[if_neg h45,if_neg (fun h=>h45 (.inl h)),if_neg (fun h=>h45 (.inr h))];exact⟨_,_,rfl⟩
  ·rw[decide_eq_false hk,if_pos (.inr (.inl hk))];exact⟨_,_,rfl⟩
 ·rw[if_neg hd,if_pos (.inl hd)];exact⟨_,_,rfl⟩
theorem zGh(d:Decimal)(f:Field)(m:Int)(hc:0≤f.Shape_Category)(hu:0≤f.Shape_Usage)(hm:0≤m):∃N,zF5 N d f m=some true:=by
 refine⟨4000,?_⟩;have hN:3000<4000:=by decide
 generalize (4000:Nat)=N at hN⊢;obtain⟨s,b,rfl⟩:∃s b,f=fld s b:=⟨zGL f,f.Bytes,rfl⟩
 have hc:0≤s.Category:=hc;have hu:0≤s.Usage:=hu;unfold zF5;rw[zb];split
 ·rfl
 rename_i hd1;rw[zb];split
 ·rfl
 rename_i hb1;rw[zb];split
 ·rfl
 rename_i hp1;have hb:b.length≤300:=by have hb1:¬300<(b.length:Int):=hb1;omega
 have hp:s.Picture.length≤400:=by have hp1:¬300<(s.Picture.length:Int):=hp1;omega
 obtain⟨bb,w,hS⟩:=zGw (N:=N) hN (d:=d) (by omega) hp hc hu hm;obtain⟨x,own,hG,hown⟩:=zGB (N:=N) hN hp hu hb;have hS':zkr N d (Shape.mk (fld s b).Shape_Category (fld s b).Shape_Usage (fld s b).Shape_Picture (fld s b).Shape_Digits (fld s b).Shape_Scale (fld s b).Shape_Signed (fld s b).Shape_Leading (fld s b).Shape_Separate (fld s b).Shape_Just (fld s b).Shape_Blank (fld s b).Shape_Size) m=_:=hS;rw[hS',zc,hG,zc,Js hN (by omega),zc];have k1:zF4 N own (fld s b)=some true:=by
  unfold zF4;show bnd (zth N (fld s b)) _=_;rw[hG,zc];unfold zGa;dsimp only;by_cases h0:own=0
  ·rw[h0];rfl
  ·rw[decide_eq_false h0,Bool.not_false,cond_true,decide_eq_true rfl];rfl
 have k0:∀bad:Bool,bad=decide (¬VD d∨chkV s≠0∨7<m)→zF6 N (if¬VD d∨chkV s≠0∨7<m then 1 else if s.Category=4∨s.Category=5 then 0 else 12) own bad (fld s b)=some true:=by
  intro bad hbad;unfold zF6;by_cases hB:¬VD d∨chkV s≠0∨7<m
  ·rw[if_pos hB,hbad,decide_eq_true hB];exact k1
  ·rw[if_neg hB,hbad,decide_eq_false hB];show cond (!decide (decide ((if s.Category=4∨s.Category=5 then(0:Int)else 12)=1)=false)) _ (cond (!false) (cond (!decide (s.Category=4)) (cond (!decide (decide ((if s.Category=4∨s.Category=5 then(0:Int)else 12)=12)=!decide (s.Category=5))) (some false) (zF4 N own (fld s b)))
    (cond (!decide (decide ((if s.Category=4∨s.Category=5 then(0:Int)else 12)=12)=false)) (some false) (zF4 N own (fld s b)))) (zF4 N own (fld s b)))=_
   rw[k1];by_cases h4:s.Category=4
   ·rw[if_pos (.inl h4),decide_eq_true h4];rfl
   ·by_cases h5:s.Category=5
    ·rw[if_pos (.inr h5),decide_eq_false h4,decide_eq_true h5];rfl
    ·rw[if_neg (by rintro(h|h);exact h4 h;exact h5 h),decide_eq_false h4,decide_eq_false h5];rfl
 dsimp only;by_cases hd:VD d
 ·rw[if_pos hd];show cond false _ _=_;rw[cond_false,zb];split
  ·rename_i h1;exact k0 true (decide_eq_true (.inr (.inl (hown.1 h1)))).symm
  ·rename_i h1;refine k0 _ (decide_eq_decide.2 ⟨fun h=>.inr (.inr h),fun h=>?_⟩);rcases h with h|h|h
   ·exact absurd hd h
   ·exact absurd (hown.2 h) h1
   ·exact h
 ·rw[if_neg hd];exact k0 true (decide_eq_true (.inl hd)).symm
end Go.Proofs.C06
end
