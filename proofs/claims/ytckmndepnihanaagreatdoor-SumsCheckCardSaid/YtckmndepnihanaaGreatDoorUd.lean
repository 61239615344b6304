/-
  A part of the proof of the laws.
-/
import Derived.Test.YtckmndepnihanaaGreatDoorUa
import Derived.Test.YtckmndepnihanaaGreatDoorPc
import Derived.Test.YtckmndepnihanaaGreatDoorS4
section
set_option maxRecDepth 100000
namespace Go.Proofs.C06
open Go Go.RowKit Go.Vc Go.Am Go.Dg
def wr(s:Shape)(n:Nat)(ng:Bool)(x:List UInt8):List UInt8:=if s.Separate=true then wS s.Leading ng x else if s.Usage=0 then wZ s.Signed s.Leading ng n x else if s.Usage=1 then wP s.Signed ng x else wB (zyj n) ng x
end Go.Proofs.C06
end
section
set_option maxRecDepth 100000
namespace Go.Proofs.C06
open Go Go.RowKit Go.Vc Go.Am Go.Dg
end Go.Proofs.C06
end
section
set_option maxRecDepth 100000
namespace Go.Proofs.C06
open Go Go.RowKit Go.Vc Go.Am Go.Dg
theorem WD{N:Nat}{l:List UInt8}{L:Nat}(hd:Digs l)(hl:l.length≤L)(hL:L≤1000):YU N l (L:Int)=some (fmt L (val l)):=by
 unfold YU;rw[zN (by omega) (by omega),za,show j2 ((L:Int)-(l.length:Int)) 0=((L-l.length:Nat):Int)by unfold j2;split<;>omega,ZB (by omega),zl,
  yv (by rw[List.length_replicate];omega),za,zxh (l:=List.replicate (L-l.length) 48++l) (n:=L) (v:=val l) (Digs.append.2 ⟨Digs.zeros _,hd⟩) (by rw[List.length_append,List.length_replicate];omega) (Wf _ _)]
def alD(d:Decimal)(M:Nat):Nat:=val d.Digits*10^(M-d.Scale.toNat)
def maxS(a b:Decimal):Nat:=max a.Scale.toNat b.Scale.toNat
theorem zdX{N:Nat}{a b:Decimal}(ha:VD a)(hb:VD b):∃L,1≤L∧L≤124∧alD a (maxS a b)<10^L∧alD b (maxS a b)<10^L∧
  Q7 N a b=some (fmt L (alD a (maxS a b)),fmt L (alD b (maxS a b)),((maxS a b:Nat):Int)):=by
 obtain⟨a1,a2,a3,a4,a5,_⟩:=ha;obtain⟨b1,b2,b3,b4,b5,_⟩:=hb;have hM:j2 a.Scale b.Scale=((maxS a b:Nat):Int):=by unfold j2 maxS;split<;>omega
 have hA:a.Scale.toNat≤maxS a b∧b.Scale.toNat≤maxS a b∧maxS a b≤62:=by unfold maxS;omega
 obtain⟨M,hMM⟩:∃M,M=maxS a b:=⟨_,rfl⟩
 rw[←hMM]at hM hA⊢;obtain⟨x,hx⟩:∃x,x=a.Digits++List.replicate (M-a.Scale.toNat) (48:UInt8):=⟨_,rfl⟩
 obtain⟨y,hy⟩:∃y,y=b.Digits++List.replicate (M-b.Scale.toNat) (48:UInt8):=⟨_,rfl⟩
 have hxd:Digs x:=by rw[hx];exact Digs.append.2 ⟨a2,Digs.zeros _⟩
 have hyd:Digs y:=by rw[hy];exact Digs.append.2 ⟨b2,Digs.zeros _⟩
 have hxl:x.length=a.Digits.length+(M-a.Scale.toNat):=by rw[hx,List.length_append,List.length_replicate]
 have hyl:y.length=b.Digits.length+(M-b.Scale.toNat):=by rw[hy,List.length_append,List.length_replicate]
 have hxv:val x=alD a M:=by rw[hx,yw];rfl
 have hyv:val y=alD b M:=by rw[hy,yw];rfl
 have ha0:1≤a.Digits.length:=List.length_pos_iff.2 a1;refine⟨max x.length y.length,by omega,by omega,?_,?_,?_⟩
 ·rw[←hxv];exact Nat.lt_of_lt_of_le (jI hxd) (Nat.pow_le_pow_right (by decide) (by omega))
 ·rw[←hyv];exact Nat.lt_of_lt_of_le (jI hyd) (Nat.pow_le_pow_right (by decide) (by omega))
 ·unfold Q7;rw[hM,show(M:Int)-a.Scale=((M-a.Scale.toNat:Nat):Int)by omega,show(M:Int)-b.Scale=((M-b.Scale.toNat:Nat):Int)by omega,zN (by omega) (by omega),za,ZB (by omega),zl,
   yv (by rw[List.length_replicate];omega),za,zN (by omega) (by omega),za,ZB (by omega),zl,yv (by rw[List.length_replicate];omega),za,←hx,←hy,
   show j2 (x.length:Int) (y.length:Int)=((max x.length y.length:Nat):Int)by unfold j2;split<;>omega,WD hxd (by omega) (by omega),zl,WD hyd (by omega) (by omega),zl,hxv,hyv]
theorem zq4(N:Nat){a b c:Nat}(h:a+b+c≤1000):zmm N (a:Int) (b:Int) (c:Int)=some ((((a+b+c)%10:Nat):Int),(((a+b+c)/10:Nat):Int)):=by
 unfold zmm;have e:(a:Int)+b+c=((a+b+c:Nat):Int):=by omega
 have e0:(nonneg ((a+b+c:Nat):Int)&&decide (0<10))=true:=by simp only[nonneg,Bool.and_eq_true,decide_eq_true_eq];omega
 rw[e,zN (by omega) (by omega),za,zN (by omega) (by omega),za,e0,za,za,za,Bool.true_and,zN (by omega) (by omega),za];congr 1
theorem VN{l:List UInt8}{i:Nat}(h:i<l.length):l.drop i=l.getD i 0::l.drop (i+1):=by rw[List.drop_eq_getElem_cons h,List.getD_eq_getElem?_getD,List.getElem?_eq_getElem h];rfl
theorem Vr{l:List UInt8}(hd:Digs l){t:Nat}(ht:t<l.length):val l%10^(t+1)=((l.getD (l.length-1-t) 0).toNat-48)*10^t+val l%10^t:=by have e1:=(Xc hd (m:=t+1) (by omega)).2;have e2:=(Xc hd (m:=t) (by omega)).2;rw[←e1,←e2,show l.length-(t+1)=l.length-1-t by omega,VN (by omega),jo,show l.length-1-t+1=l.length-t by omega,List.length_drop,show l.length-(l.length-t)=t by omega]
theorem zk5{P u v dx dy:Nat}(hP:0<P):((dx*P+u)+(dy*P+v))/(10*P)=(dx+dy+(u+v)/P)/10∧((dx*P+u)+(dy*P+v))% (10*P)=((dx+dy+(u+v)/P)%10)*P+(u+v)%P:=by
 have h:=Nat.div_add_mod (u+v) P;have e:(dx*P+u)+(dy*P+v)=(dx+dy+(u+v)/P)*P+(u+v)%P:=by rw[Nat.add_mul,Nat.add_mul,Nat.mul_comm ((u+v)/P) P];omega
 have hm:=Nat.mod_lt (u+v) hP;have hw:=Nat.div_add_mod (dx+dy+(u+v)/P) 10;have e2:(dx+dy+(u+v)/P)*P+(u+v)%P=10*P*((dx+dy+(u+v)/P)/10)+(((dx+dy+(u+v)/P)%10)*P+(u+v)%P):=by rw[←Nat.add_assoc];congr 1;rw[show 10*P*((dx+dy+(u+v)/P)/10)=(10*((dx+dy+(u+v)/P)/10))*P by rw[Nat.mul_assoc,Nat.mul_assoc,Nat.mul_comm P],←Nat.add_mul,hw]
 have hlt:((dx+dy+(u+v)/P)%10)*P+(u+v)%P<10*P:=by have h9:=Nat.mul_le_mul_right P (show(dx+dy+(u+v)/P)%10≤9 by omega);omega
 rw[e,e2];constructor
 ·rw[Nat.mul_add_div (by omega),Nat.div_eq_of_lt hlt,Nat.add_zero]
 ·rw[Nat.mul_add_mod,Nat.mod_eq_of_lt hlt]
theorem Jy{N L:Nat}{x y:List UInt8}(hx:Digs x)(hy:Digs y)(hxl:x.length=L)(hyl:y.length=L)(hL:L≤1000):∀(k t c:Nat)(b:List UInt8),t≤L→L-t<k→b.length=L→Digs (b.drop (L-t))→
  val (b.drop (L-t))=(val x%10^t+val y%10^t)%10^t→c=(val x%10^t+val y%10^t)/10^t→
  ∃r,yL N k x y (c:Int) (L:Int) (t:Int) b=some (r,(((val x+val y)/10^L:Nat):Int))∧Digs r∧r.length=L∧val r=(val x+val y)%10^L
 |0,t,c,b,_,hk,_,_,_,_=>by omega
 |k+1,t,c,b,ht,hk,hb,hD,hv,hc=>by
  show∃r,q9 N (yL N k) x y (c:Int) (L:Int) (t:Int) b=_∧_;unfold q9;rw[zp];by_cases h:t<L
  ·have hi:L-1-t<L:=by omega
   have dX:=Zo hx (i:=L-1-t) (by omega);have dY:=Zo hy (i:=L-1-t) (by omega);have eX:byteAt x ((L-1-t:Nat):Int)-48=(((x.getD (L-1-t) 0).toNat-48:Nat):Int):=by rw[JB];omega
   have eY:byteAt y ((L-1-t:Nat):Int)-48=(((y.getD (L-1-t) 0).toNat-48:Nat):Int):=by rw[JB];omega
   have lX:=Vr hx (t:=t) (by omega);have lY:=Vr hy (t:=t) (by omega);rw[hxl]at lX;rw[hyl]at lY;generalize (x.getD (L-1-t) 0).toNat=p at dX eX lX;generalize (y.getD (L-1-t) 0).toNat=q at dY eY lY;have hP:=pow_pos t;have hs:=zk5 (u:=val x%10^t) (v:=val y%10^t) (dx:=p-48) (dy:=q-48) hP;rw[←lX,←lY,←hc,show 10*10^t=10^(t+1)by rw[Nat.pow_succ,Nat.mul_comm]]at hs;have hc1:c≤1:=by have m1:=Nat.mod_lt (val x) hP;have m2:=Nat.mod_lt (val y) hP;rw[hc];have:=(Nat.div_lt_iff_lt_mul (x:=val x%10^t+val y%10^t) (y:=2) hP).2 (by omega);omega
   generalize hr:p-48+(q-48)+c=w at hs;have eR:(48:Int)+((w%10:Nat):Int)=((48+w%10:Nat):Int):=by omega
   rw[if_pos (by omega),hxl,show((L:Nat):Int)-1-(t:Int)=((L-1-t:Nat):Int)by omega,zN (by omega) (by omega),za,zN (by omega) (by omega),za,z7 hi,za,eX,jH (by omega) (by omega),zN (by omega) (by omega),za,
    hyl,z7 hi,za,eY,jH (by omega) (by omega),zN (by omega) (by omega),za,zq4 N (by omega),zl,hr,eR,zN (by omega) (by omega),za,hb,z7 hi,za,jH (by omega) (by omega),
    ziP (by omega) (by omega),Bool.and_self,za,zN (by omega) (by omega),za,Int.toNat_natCast,QC,show(t:Int)+1=((t+1:Nat):Int)by omega]
   have hdr:(b.set (L-1-t) (UInt8.ofNat (48+w%10))).drop (L-(t+1))=UInt8.ofNat (48+w%10)::b.drop (L-t):=by rw[show L-(t+1)=L-1-t by omega,VN (by rw[List.length_set];omega),List.getD_eq_getElem?_getD,List.getElem?_set_self (by omega),List.drop_set_of_lt (by omega),show L-1-t+1=L-t by omega];rfl
   have hdg:=Jw (d:=w%10) (Nat.mod_lt _ (by decide));refine Jy hx hy hxl hyl hL k (t+1) (w/10) _ (by omega) (by omega) (by rw[List.length_set];exact hb) ?_ ?_ ?_
   ·rw[hdr];exact Digs.cons.2 ⟨by rw[hdg];omega,hD⟩
   ·rw[hdr,jo,hdg,hv,hs.2,List.length_drop,hb,show L-(L-t)=t by omega,show 48+w%10-48=w%10 by omega]
   ·exact hs.1.symm
  ·have htL:t=L:=by omega
   subst htL;have e1:val x%10^t=val x:=Nat.mod_eq_of_lt (hxl▸jI hx);have e2:val y%10^t=val y:=Nat.mod_eq_of_lt (hyl▸jI hy);rw[Nat.sub_self,List.drop_zero]at hD hv;rw[e1,e2]at hv hc;rw[if_neg (by omega),hc];exact⟨b,rfl,hD,hb,hv⟩
theorem zep{N L:Nat}(hN:3000<N){x y:List UInt8}(hx:Digs x)(hy:Digs y)(hxl:x.length=L)(hyl:y.length=L)(hL:L≤1000):
  ∃r,Yi N x y=some (r,(((val x+val y)/10^L:Nat):Int))∧Digs r∧r.length=L∧val r=(val x+val y)%10^L:=by
 unfold Yi;have e2:mkOk 1 (x.length:Int)=true:=by show(Nat.ble (1*x.length) 281474976710656&&Nat.ble x.length 9223372036854775807)=true;rw[Nat.ble_eq_true_of_le (by omega),Nat.ble_eq_true_of_le (by omega)];rfl
 rw[e2,decide_eq_true rfl,Bool.and_self,za,Int.toNat_natCast,hxl];exact Jy hx hy hxl hyl hL N 0 0 _ (by omega) (by omega) (by rw[List.length_replicate]) (by rw[Nat.sub_zero,List.drop_of_length_le (by rw[List.length_replicate];omega)];exact Digs.nil)
  (by rw[Nat.sub_zero,List.drop_of_length_le (by rw[List.length_replicate];omega),Nat.pow_zero,Nat.mod_one,JH]) (by rw[Nat.pow_zero,Nat.mod_one,Nat.mod_one])
theorem zvw:ziM ((0:Nat):Int)=some [48]:=by kernel_rfl
theorem zvv:ziM ((1:Nat):Int)=some [49]:=by kernel_rfl
theorem zrN{N L:Nat}(hN:3000<N){x y:List UInt8}(hx:Digs x)(hy:Digs y)(hxl:x.length=L)(hyl:y.length=L)(hL:L≤1000):
  ∃r,zi6 N x y=some r∧Digs r∧r.length=L+1∧val r=val x+val y:=by
 obtain⟨r,h1,h2,h3,h4⟩:=zep hN hx hy hxl hyl hL;have hP:=pow_pos L;have b1:val x<10^L:=hxl▸jI hx;have b2:val y<10^L:=hyl▸jI hy;have hdm:=Nat.div_add_mod (val x+val y) (10^L);have hc:=(Nat.div_lt_iff_lt_mul (x:=val x+val y) (y:=2) hP).2 (by omega);unfold zi6;rw[h1,zl];show∃r1,(bnd (ziM (((val x+val y)/10^L:Nat):Int)) fun rr1=>chk (yC rr1 r)<|some (rr1++r))=some r1∧_;generalize (val x+val y)/10^L=c at hc hdm;rcases(show c=0∨c=1 by omega)with rfl|rfl
 ·rw[zvw,zl,yv (by simp;omega),za];refine⟨_,rfl,Digs.append.2 ⟨by intro c hc;simp at hc;subst hc;decide,h2⟩,by simp;omega,?_⟩;rw[yO,show val [48]=0 by rfl,h4];omega
 ·rw[zvv,zl,yv (by simp;omega),za];refine⟨_,rfl,Digs.append.2 ⟨by intro c hc;simp at hc;subst hc;decide,h2⟩,by simp;omega,?_⟩;rw[yO,show val [49]=1 by rfl,h4,h3];omega
theorem zja{N:Nat}(hN:3000<N){a b:Decimal}(ha:VD a)(hb:VD b):Qr N a b=some 0:=by unfold Qr;rw[Zr hN (by have:=ha.2.2.1;omega),zl,Zr hN (by have:=hb.2.2.1;omega),zl,if_pos ha,if_pos hb];rfl
theorem zvO{N:Nat}(hN:3000<N){a b:Decimal}(ha:VD a)(hb:VD b)(hs:a.Neg=b.Neg):∃l,zen N a b=some (nrm a.Neg l ((maxS a b:Nat):Int))∧val l=alD a (maxS a b)+alD b (maxS a b):=by
 obtain⟨L,hL0,hL,h1,h2,h3⟩:=zdX (N:=N) ha hb;have hM:maxS a b≤62:=by have:=ha.2.2.2.2.1;have:=hb.2.2.2.2.1;unfold maxS;omega
 obtain⟨r,r1,r2,r3,r4⟩:=zrN (N:=N) (L:=L) hN (qd L (alD a (maxS a b))) (qd L (alD b (maxS a b))) (jw _ _) (jw _ _) (by omega);refine⟨r,?_,by rw[r4,Zd _ _ h1,Zd _ _ h2]⟩;unfold zen;rw[zja hN ha hb,zl,show(!decide ((0:Int)=0))=false by rfl];show(bnd (Q7 N a b) _)=_;rw[h3,zl,decide_eq_true hs];show(bnd (zi6 N (fmt L (alD a (maxS a b))) (fmt L (alD b (maxS a b)))) _)=_;have hn:=qA hN a.Neg r2 (s:=((maxS a b:Nat):Int)) (by omega) (by omega) (by omega);rw[r1,zl];show(bnd (jz N a.Neg r ((maxS a b:Nat):Int)) _)=_;rw[hn,zl]
theorem zc7:∀{x y:List UInt8},Digs x→Digs y→x.length=y.length→(Op.bytesLess x y=true↔val x<val y)
 |[],[],_,_,_=>by simp[Op.bytesLess,val]
 |[],_::_,_,_,h=>by simp at h
 |_::_,[],_,_,h=>by simp at h
 |a::x,b::y,hx,hy,h=>by
  obtain⟨a1,hx⟩:=Digs.cons.1 hx;obtain⟨b1,hy⟩:=Digs.cons.1 hy;have hl:x.length=y.length:=by simpa using h
  have ih:=zc7 hx hy hl;have v1:=jI hx;have v2:=jI hy;rw[jo,jo,hl];rw[hl]at v1;show(decide (a<b)||(a==b&&Op.bytesLess x y))=true↔_;rw[Bool.or_eq_true,decide_eq_true_eq,Bool.and_eq_true,beq_iff_eq,ih,UInt8.lt_iff_toNat_lt];have hab:a=b↔a.toNat=b.toNat:=UInt8.toNat_inj.symm;rw[hab];have hA:=(show a.toNat-48+48=a.toNat by omega)
  have hB:=(show b.toNat-48+48=b.toNat by omega)
  generalize a.toNat-48=p at hA;generalize b.toNat-48=q at hB;rw[←hA,←hB];rcases Nat.lt_trichotomy p q with c|c|c
  ·have:=Nat.mul_le_mul_right (10^y.length) (show p+1≤q by omega);rw[Nat.add_mul,Nat.one_mul]at this;exact⟨fun _=>by omega,fun _=>.inl (by omega)⟩
  ·subst c;exact⟨fun h=>by omega,fun h=>.inr (by omega)⟩
  ·have:=Nat.mul_le_mul_right (10^y.length) (show q+1≤p by omega);rw[Nat.add_mul,Nat.one_mul]at this;exact⟨fun h=>by omega,fun h=>by omega⟩
end Go.Proofs.C06
end
