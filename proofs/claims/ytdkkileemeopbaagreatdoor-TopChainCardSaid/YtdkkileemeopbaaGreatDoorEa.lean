/-
  A part of the proof of the laws.
-/
import Derived.Test.YtdkkileemeopbaaGreatDoorPc
import Derived.Test.YtdkkileemeopbaaGreatDoorS6a
section
set_option maxRecDepth 100000
namespace Go.Proofs.C06
open Go Go.RowKit Go.Vc Go.Am
def XZ(s:Shape)(c:Int):Int:=if chkV s≠0 then 1 else if s.uD≠c then 12 else 0
theorem zf4{N:Nat}(hN:1000<N){s:Shape}(hp:s.uC.length<=400)(c:Int):zf5 N s c=some (XZ s c):=by
 unfold zf5 XZ;rw[Wr hN hp,zc,zg,zg];by_cases h:chkV s=0
 ·by_cases h2:s.uD=c<;>simp[h,h2]
 ·simp[h]
def zus(c:UInt8)(neg:Bool):UInt8:=if neg=true then 45 else if c=43 then 43 else 32
def shw(c:UInt8)(neg:Bool):UInt8:=if c=66 then 32 else if c=48 then 48 else if c=47 then 47 else if c=44 then 44 else if c=46 then 46 else if c=36 then 36 else zus c neg
theorem ZB(c:UInt8)(k:Nat)(hk:k<256):((c.toNat:Int)=(k:Int))↔c=UInt8.ofNat k:=by
 have h1:(UInt8.ofNat k).toNat=k:=by simp;omega
 rw[<-UInt8.toNat_inj,h1];omega
theorem ztq(N:Nat)(c:UInt8)(neg:Bool):zpM N (c.toNat:Int) neg=some ((zus c neg).toNat:Int):=by
 unfold zpM zus;have h43:=ZB c 43 (by decide);cases neg
 ·by_cases h:c=43
  ·subst h;rfl
  ·have:decide ((c.toNat:Int)=43)=false:=decide_eq_false (fun e=>h (h43.1 e));rw[this];simp[h]
 ·rfl
theorem zqj(c:UInt8)(k:Nat)(hk:k<256):((k:Int)=(c.toNat:Int))↔c=UInt8.ofNat k:=by rw[eq_comm];exact ZB c k hk
theorem Xw(N:Nat)(c:UInt8)(neg:Bool):Yz N (c.toNat:Int) neg=some ((shw c neg).toNat:Int):=by
 by_cases e1:c=66
 ·subst e1;rfl
 by_cases e2:c=48
 ·subst e2;rfl
 by_cases e3:c=47
 ·subst e3;rfl
 by_cases e4:c=44
 ·subst e4;rfl
 by_cases e5:c=46
 ·subst e5;rfl
 by_cases e6:c=36
 ·subst e6;rfl
 unfold Yz shw;have d66:decide ((66:Int)=(c.toNat:Int))=false:=decide_eq_false (fun e=>e1 ((zqj c 66 (by decide)).1 e));have d48:decide ((48:Int)=(c.toNat:Int))=false:=decide_eq_false (fun e=>e2 ((zqj c 48 (by decide)).1 e));have d47:decide ((47:Int)=(c.toNat:Int))=false:=decide_eq_false (fun e=>e3 ((zqj c 47 (by decide)).1 e));have d44:decide ((44:Int)=(c.toNat:Int))=false:=decide_eq_false (fun e=>e4 ((zqj c 44 (by decide)).1 e));have d46:decide ((46:Int)=(c.toNat:Int))=false:=decide_eq_false (fun e=>e5 ((zqj c 46 (by decide)).1 e));have d36:decide ((36:Int)=(c.toNat:Int))=false:=decide_eq_false (fun e=>e6 ((zqj c 36 (by decide)).1 e));rw[d66,d48,d47,d44,d46,d36,if_neg e1,if_neg e2,if_neg e3,if_neg e4,if_neg e5,if_neg e6,ztq];rfl
def txt:uBp->uBp->uBp
 |[],_=>[]
 |c::p,b=>if c=65\/c=88\/c=57 then b.headD 32::txt p b.tail else shw c false::txt p b
theorem yq(c:UInt8):zd .u8 (c.toNat:Int)=true:=yA.2 ⟨by show(0:Int)<=_;omega,by show(c.toNat:Int)<=255;have:=c.toNat_lt;omega⟩
theorem j1(c:UInt8):toByte (c.toNat:Int)=c:=by unfold toByte;simp
theorem ztt(N:Nat)(b:uBp):zpN N b=some (((b.headD 32).toNat:Int),b.tail):=by
 unfold zpN;rw[zb];cases b with
 |nil=>rfl
 |cons c r=>
  rw[if_neg (by simp only[mI];omega)];have h1:zn 0 (c::r).length=true:=zt.2 ⟨by omega,by simp only[mI];omega⟩;have h2:zm 1 ((c::r).length:Int) (c::r).length=true:=by unfold zm;simp only[mI,mD,decide_eq_true_eq];omega
  rw[h1,h2,za,za,zrX];rfl
theorem zmO{N:Nat}(go:Int->Int->Shape->uBp->uBp->Option (uBp×Int))(u:UInt8)(t:Int)(i:Nat)(s:Shape)(out b:uBp)(hi:i<=1000)(ho:out.length<=1000)(t36:Bool):
  QS N go (u.toNat:Int) t (i:Int) t36 s out b=if t36=true then go t ((i+1:Nat):Int) s (out++[b.headD 32]) b.tail else go t ((i+1:Nat):Int) s (out++[shw u false]) b:=by
 unfold QS;have hk:zd .i64 ((i:Int)+1)=true:=zh (by omega) (by omega);have hg:∀c:UInt8,zF 1 (out++[c]).length=true:=fun c=>jP (by rw[mM,uAG];omega)
 cases t36
 ·rw[cond_false,Xw,zc,yq,uAT,j1,hg,hk];rfl
 ·rw[cond_true,ztt,zc];simp only[];rw[yq,uAT,j1,hg,hk];rfl
theorem clip_is{N:Nat}(l:uBp):Wv N l=some l:=by
 unfold Wv;have h:zm 0 (l.length:Int) l.length=true:=by unfold zm;simp only[mD,decide_eq_true_eq];omega
 simp[h,Vc.sub]
theorem YH{N:Nat}{s:Shape}(hs:s.uC.length<=400):∀(n i:Nat)(out b:uBp),i<=s.uC.length->s.uC.length-i<n->out.length+(s.uC.length-i)<=1000->
  ZT N n (s.uC.length:Int) (i:Int) s out b=some (out++txt (s.uC.drop i) b,0)
 |0,i,out,b,_,h,_=>by omega
 |n+1,i,out,b,hi,hn,ho=>by
  show zaO N (ZT N n) _ _ s out b=_;unfold zaO;rw[zb];by_cases h:i<s.uC.length
  ·rw[if_pos (by omega),jm h,za,zJ];obtain⟨c,hc⟩:∃c,s.uC.getD i 0=c:=⟨_,rfl⟩
   have hd:s.uC.drop i=c::s.uC.drop (i+1):=by rw[uAk h,<-hc,mE,mC h];rfl
   rw[hc,hd];have e65:((c.toNat:Int)=65)↔c=65:=ZB c 65 (by decide);have e88:((c.toNat:Int)=88)↔c=88:=ZB c 88 (by decide);have e57:((c.toNat:Int)=57)↔c=57:=ZB c 57 (by decide);have ih1:=fun o=>YH (N:=N) hs n (i+1) (out++[o])
   have yes:(c=65\/c=88\/c=57)->ZT N n (s.uC.length:Int) ((i+1:Nat):Int) s (out++[b.headD 32]) b.tail=some (out++txt (c::s.uC.drop (i+1)) b,0):=fun hh=>by rw[YH hs n (i+1) _ _ (by omega) (by omega) (by rw[mM,uAG];omega)];rw[txt,if_pos hh,mK];rfl
   have no:¬(c=65\/c=88\/c=57)->ZT N n (s.uC.length:Int) ((i+1:Nat):Int) s (out++[shw c false]) b=some (out++txt (c::s.uC.drop (i+1)) b,0):=fun hh=>by rw[YH hs n (i+1) _ _ (by omega) (by omega) (by rw[mM,uAG];omega)];rw[txt,if_neg hh,mK];rfl
   simp only[zmO _ c _ i s out b (by omega) (by omega),zb,decide_eq_true_eq];by_cases h1:c=65
   ·rw[if_pos (e65.2 h1),if_pos (e65.2 h1)];exact yes (.inl h1)
   ·rw[if_neg (fun e=>h1 (e65.1 e))];by_cases h2:c=88
    ·rw[if_pos (e88.2 h2),if_pos (e88.2 h2)];exact yes (.inr (.inl h2))
    ·rw[if_neg (fun e=>h2 (e88.1 e))];by_cases h3:c=57
     ·rw[if_pos (e57.2 h3)];exact yes (.inr (.inr h3))
     ·rw[if_neg (fun e=>h3 (e57.1 e))];exact no (by rintro(e|e|e)<;>contradiction)
  ·have:i=s.uC.length:=by omega
   subst this;rw[if_neg (by omega),clip_is,zc,uA5];simp[txt]
theorem zt8{N:Nat}(hN:1000<N){s:Shape}(hp:s.uC.length<=400)(b:uBp)(hs:XZ s 3=0->0<=s.uG/\s.uG<=1000):
  zp0 N b s=some (if XZ s 3≠0 then([],XZ s 3)else(txt s.uC b,0)):=by
 unfold zp0;rw[zf4 hN hp,zc,zg];by_cases h:XZ s 3=0
 ·obtain⟨h1,h2⟩:=hs h;have hm:zbi 1 s.uG=true:=by obtain⟨k,hk⟩:=uAZ h1;rw[hk];show(Nat.ble (1*k) 281474976710656&&Nat.ble k 9223372036854775807)=true;simp only[mD,uA9];omega
  rw[if_pos h,if_neg (fun k=>k h),hm,decide_eq_true h1,uAp,uAg,show decide ((0:Nat)<=0)=true from rfl,za];have:=YH (N:=N) hp N 0 [] b (by omega) (by omega) (by simp;omega);simpa using this
 ·rw[if_neg h,if_pos h]
end Go.Proofs.C06
end
section
set_option maxRecDepth 100000
namespace Go.Proofs.C06
open Go Go.RowKit Go.Vc Go.Am
theorem YC(c:UInt8):∀t:uBp,t=List.replicate (cnt [c] t) c++t.drop (cnt [c] t)
 |[]=>rfl
 |x::t=>by
  rw[qd];by_cases h:x=c
  ·subst h;have ih:=YC x t;rw[if_pos (by simp),nM,uBd,nU,<-ih]
  ·rw[if_neg (by simpa using h)];rfl
theorem zfO{t:uBp}{c:UInt8}(h:t.getD 0 0=c)(hc:c≠0):t=c::t.drop 1:=by
 cases t with
 |nil=>exact (hc (by simpa using h.symm)).elim
 |cons x r=>simp only[List.getD_cons_zero]at h;subst h;rfl
theorem zlW{sg dg sc:Nat}{t:uBp}{d c:Nat}{s:Bool}(h:fin sg dg sc t=some (d,c,s)):
  d=dg/\c=sc/\(t=[]\/t=[43]\/t=[45])/\s=decide (0<sg+t.length)/\sg+t.length<2/\0<dg:=by
 unfold fin at h;split at h
 ·rename_i ht;split at h
  ·rename_i hc;cases h;rcases ht with rfl|rfl
   ·exact⟨rfl,rfl,.inr (.inl rfl),by simp,hc.1,hc.2⟩
   ·exact⟨rfl,rfl,.inr (.inr rfl),by simp,hc.1,hc.2⟩
  ·cases h
 ·split at h
  ·rename_i hc;cases h;obtain⟨rfl,h1,h2⟩:=hc;exact⟨rfl,rfl,.inl rfl,by simp,h1,h2⟩
  ·cases h
theorem zu4{sym:uBp}{m:Nat}{t:uBp}(hs:sym=[]\/∃y,sym=[y]):∃x,t=List.replicate (fr sym m t) x++t.drop (fr sym m t)/\
  (0<fr sym m t->x=57\/(m=0/\((∃y,sym=[y]/\x=y)\/(sym=[]/\(x=90\/x=42))))):=by
 by_cases h1:0<cnt [57] t\/0<m
 ·rw[show fr sym m t=cnt [57] t by unfold fr;rw[if_pos h1]];exact⟨57,YC 57 t,fun _=>.inl rfl⟩
 ·have hm:m=0:=by omega
  rcases hs with rfl|⟨y,rfl⟩
  ·by_cases h2:t.getD 0 0=90\/t.getD 0 0=42
   ·rw[show fr [] m t=cnt [t.getD 0 0] t by unfold fr;rw[if_neg h1,if_neg (by simp),if_pos h2]];exact⟨t.getD 0 0,YC _ t,fun _=>.inr ⟨hm,.inr ⟨rfl,h2⟩⟩⟩
   ·rw[show fr [] m t=0 by unfold fr;rw[if_neg h1,if_neg (by simp),if_neg h2]];exact⟨0,rfl,fun h=>by omega⟩
  ·rw[show fr [y] m t=cnt [y] t by unfold fr;rw[if_neg h1,if_pos (by simp)]];exact⟨y,YC y t,fun _=>.inr ⟨hm,.inl ⟨y,rfl,rfl⟩⟩⟩
theorem zq0{sg dg m:Nat}{sym t:uBp}{d c:Nat}{s:Bool}(hs:sym=[]\/∃y,sym=[y])(h:zn1 sg dg sym m t=some (d,c,s)):
  ∃(pt:uBp)(x:UInt8)(f:Nat)(e:uBp),t=pt++(List.replicate f x++e)/\(pt=[]/\f=0\/pt=[46]/\0<f\/pt=[86])/\(e=[]\/e=[43]\/e=[45])/\d=dg+f/\c=f/\
   s=decide (0<sg+e.length)/\sg+e.length<2/\0<d/\(0<f->x=57\/(m=0/\((∃y,sym=[y]/\x=y)\/(sym=[]/\(x=90\/x=42))))):=by
 unfold zn1 at h;split at h
 ·rename_i hp;split at h
  ·cases h
  ·rename_i hz;obtain⟨rfl,rfl,h3,h4,h5,h6⟩:=zlW h;obtain⟨x,hx,hx2⟩:=zu4 (sym:=sym) (m:=m) (t:=t.drop 1) hs;refine⟨[t.getD 0 0],x,fr sym m (t.drop 1),t.drop (1+fr sym m (t.drop 1)),?_,?_,h3,rfl,rfl,h4,h5,h6,hx2⟩
   ·rw[<-nA,<-hx];rcases hp with hp|hp
    ·rw[hp];exact zfO hp (by decide)
    ·rw[hp];exact zfO hp (by decide)
   ·rcases hp with hp|hp
    ·rw[hp];right;left;refine⟨rfl,?_⟩;rcases uAI (fr sym m (t.drop 1))with h0|h0
     ·exact (hz ⟨hp,h0⟩).elim
     ·exact h0
    ·rw[hp];exact .inr (.inr rfl)
 ·obtain⟨rfl,rfl,h3,h4,h5,h6⟩:=zlW h;exact⟨[],0,0,t,rfl,.inl ⟨rfl,rfl⟩,h3,rfl,rfl,h4,h5,h6,fun h=>by omega⟩
structure EdF(sg0:Nat)(q:uBp)(dg sc:Nat)(sn:Bool)(s1 m1:uBp)(c:UInt8)(k m:Nat)(pt:uBp)(x:UInt8)(f:Nat)(e:uBp):Prop where
 eq:q=s1++(m1++(List.replicate k c++(List.replicate m 57++(pt++(List.replicate f x++e)))))
 hs1:s1=[]\/s1=[43]\/s1=[45]
 hm1:m1=[]\/m1=[36]
 he:e=[]\/e=[43]\/e=[45]
 hpt:pt=[]/\f=0\/pt=[46]/\0<f\/pt=[86]
 run:k=0\/c=90\/c=42\/(2<=k/\(c=36\/c=43\/c=45))
 fx:0<f->x=57\/(m=0/\((0<k/\x=c)\/(k=0/\(x=90\/x=42))))
 dol:m1=[36]->0<k->c≠36
 hsg:sg0+s1.length+(if 0<k/\(c=43\/c=45)then 1 else 0)+e.length<2
 hsn:sn=decide (0<sg0+s1.length+(if 0<k/\(c=43\/c=45)then 1 else 0)+e.length)
 hdg:dg=(if 0<k/\(c=36\/c=43\/c=45)then k-1 else k)+m+f
 hsc:sc=f
 pos:0<dg
def EdG(sg0:Nat)(q:uBp)(dg sc:Nat)(sn:Bool):Prop:=∃s1 m1 c k m pt x f e,EdF sg0 q dg sc sn s1 m1 c k m pt x f e
theorem zlr{sg0 dg0:Nat}{t:uBp}{d cc:Nat}{sn:Bool}{s1 m1:uBp}{c:UInt8}{k:Nat}{sym:uBp}(hs1:s1=[]\/s1=[43]\/s1=[45])(hm1:m1=[]\/m1=[36])
  (hrun:k=0\/c=90\/c=42\/(2<=k/\(c=36\/c=43\/c=45))) (hsym:(k=0/\sym=[])\/(0<k/\sym=[c])) (hdol:m1=[36]->0<k->c≠36)
  (hdg:dg0=if 0<k/\(c=36\/c=43\/c=45)then k-1 else k)
  (h:nin (sg0+s1.length+(if 0<k/\(c=43\/c=45)then 1 else 0)) dg0 sym t=some (d,cc,sn)):EdG sg0 (s1++(m1++(List.replicate k c++t))) d cc sn:=by
 unfold nin at h;obtain⟨pt,x,f,e,h1,h2,h3,h4,h5,h6,h7,h8,h9⟩:=zq0 (by rcases hsym with⟨_,h⟩|⟨_,h⟩;exact .inl h;exact .inr ⟨_,h⟩) h;refine⟨s1,m1,c,k,cnt [57] t,pt,x,f,e,?_,hs1,hm1,h3,h2,hrun,fun hf=>?_,hdol,h7,h6,by rw[h4,hdg],h5,h8⟩
 ·rw[<-h1,<-YC 57 t]
 ·rcases h9 hf with h|⟨h,h'⟩
  ·exact .inl h
  ·right;refine⟨h,?_⟩;rcases h' with⟨y,hy,rfl⟩|⟨hy,hx⟩
   ·rcases hsym with⟨_,h0⟩|⟨h0,h0'⟩
    ·rw[h0]at hy;cases hy
    ·rw[h0']at hy;cases hy;exact .inl ⟨h0,rfl⟩
   ·rcases hsym with⟨h0,_⟩|⟨_,h0'⟩
    ·exact .inr ⟨h0,hx⟩
    ·rw[h0']at hy;cases hy
theorem zkz{sg0:Nat}{t:uBp}{d cc:Nat}{sn:Bool}{s1 m1:uBp}(hs1:s1=[]\/s1=[43]\/s1=[45])(hm1:m1=[]\/m1=[36])(hdol:m1=[36]->cnt [36] t=0)
  (h:who (sg0+s1.length) t=some (d,cc,sn)):EdG sg0 (s1++(m1++t)) d cc sn:=by
 unfold who at h;have key:∀(c:UInt8)(dg0:Nat)(sg':Nat),0<cnt [c] t->(c=90\/c=42\/(2<=cnt [c] t/\(c=36\/c=43\/c=45)))->dg0=(if 0<cnt [c] t/\(c=36\/c=43\/c=45)then cnt [c] t-1 else cnt [c] t)->
   sg'=sg0+s1.length+(if 0<cnt [c] t/\(c=43\/c=45)then 1 else 0)->nin sg' dg0 [c] (t.drop (cnt [c] t))=some (d,cc,sn)->EdG sg0 (s1++(m1++t)) d cc sn:=by
  intro c dg0 sg' hk hr hd hs hn;rw[YC c t];subst hs;exact zlr hs1 hm1 (.inr hr) (.inr ⟨hk,rfl⟩) (fun hm _ e=>by subst e;have:=hdol hm;omega) hd hn
 split at h
 ·rename_i hk;exact key 90 _ _ hk (.inl rfl) (by rw[if_neg (fun k=>absurd k.2 (by decide))]) (by rw[if_neg (fun k=>absurd k.2 (by decide))];rfl) h
 ·split at h
  ·rename_i hk;exact key 42 _ _ hk (.inr (.inl rfl)) (by rw[if_neg (fun k=>absurd k.2 (by decide))]) (by rw[if_neg (fun k=>absurd k.2 (by decide))];rfl) h
  ·split at h
   ·rename_i hk;exact key 36 _ _ (by omega) (.inr (.inr ⟨hk,.inl rfl⟩)) (by rw[if_pos ⟨by omega,.inl rfl⟩]) (by rw[if_neg (fun k=>absurd k.2 (by decide))];rfl) h
   ·split at h
    ·rename_i hk;exact key 43 _ _ (by omega) (.inr (.inr ⟨hk,.inr (.inl rfl)⟩)) (by rw[if_pos ⟨by omega,.inr (.inl rfl)⟩]) (by rw[if_pos ⟨by omega,.inl rfl⟩]) h
    ·split at h
     ·rename_i hk;exact key 45 _ _ (by omega) (.inr (.inr ⟨hk,.inr (.inr rfl)⟩)) (by rw[if_pos ⟨by omega,.inr (.inr rfl)⟩]) (by rw[if_pos ⟨by omega,.inr rfl⟩]) h
     ·have:=zlr (c:=0) (k:=0) (sg0:=sg0) hs1 hm1 (.inl rfl) (.inl ⟨rfl,rfl⟩) (fun _ h=>by omega) (dg0:=0) (by rw[if_neg (by omega)]) (by rw[if_neg (by omega)];exact h);exact this
theorem zlu{sg0:Nat}{t:uBp}{d cc:Nat}{sn:Bool}{s1:uBp}(hs1:s1=[]\/s1=[43]\/s1=[45])(h:mon (sg0+s1.length) t=some (d,cc,sn)):EdG sg0 (s1++t) d cc sn:=by
 unfold mon at h;split at h
 ·rename_i hk;have e:=YC 36 t;rw[hk]at e;have h2:cnt [36] (t.drop 1)=0:=by
   have h3:cnt [36] t=cnt [36] (List.replicate 1 36++t.drop 1):=by rw[<-e]
   rw[hk]at h3;rw[show(List.replicate 1 (36:UInt8)++t.drop 1)=36::t.drop 1 from rfl,qd,if_pos (by rfl)]at h3;omega
  have:=zkz (sg0:=sg0) hs1 (.inr rfl) (fun _=>h2) h;rw[e];exact this
 ·have:=zkz (sg0:=sg0) (m1:=[]) hs1 (.inl rfl) (fun h=>by cases h) h;exact this
theorem zkU{sg0:Nat}{t:uBp}{d cc:Nat}{sn:Bool}(h:sgn sg0 t=some (d,cc,sn)):EdG sg0 t d cc sn:=by
 unfold sgn at h;have one:∀c:UInt8,(c=43\/c=45)->cnt [c] t=1->mon (sg0+1) (t.drop 1)=some (d,cc,sn)->EdG sg0 t d cc sn:=fun c hc hk hm=>by have e:=YC c t;rw[hk]at e;have:=zlu (sg0:=sg0) (s1:=[c]) (by rcases hc with rfl|rfl;exact .inr (.inl rfl);exact .inr (.inr rfl)) hm;rw[e];exact this
 split at h
 ·rename_i hk;exact one 43 (.inl rfl) hk h
 ·split at h
  ·rename_i hk;exact one 45 (.inr rfl) hk h
  ·exact zlu (s1:=[]) (.inl rfl) h
def zG(p:uBp):uBp:=if tail2 p=[67,82]\/tail2 p=[68,66]then tail2 p else[]
def edBody(p:uBp):uBp:=if tail2 p=[67,82]\/tail2 p=[68,66]then p.take (p.length-2)else p
theorem zcV(p:uBp):p=edBody p++zG p:=by
 unfold edBody zG tail2;split
 ·rw[mT]
 ·rw[mV]
theorem K7{p:uBp}{d cc:Nat}{sn:Bool}(h:edS p=some (d,cc,sn)):EdG (if zG p=[]then 0 else 1) (noIns (edBody p)) d cc sn:=by
 unfold edS at h;split at h
 ·cases h
 ·unfold zrc at h;unfold zG edBody;split at h
  ·rename_i ht;rw[if_pos ht,if_pos ht,if_neg (by rcases ht with e|e<;>rw[e]<;>simp)];exact zkU h
  ·rename_i ht;rw[if_neg ht,if_neg ht,if_pos rfl];exact zkU h
end Go.Proofs.C06
end
section
set_option maxRecDepth 100000
namespace Go.Proofs.C06
open Go Go.RowKit Go.Vc Go.Am
def flo(b:uBp):UInt8:=if 1<b.count 45 then 45 else if 1<b.count 43 then 43 else if 1<b.count 36 then 36 else 0
def zli(s:Shape):picture:=picture.mk (edBody s.uC) (zG s.uC) ((flo (edBody s.uC)).toNat:Int)
theorem zj1(c:UInt8)(l:uBp):Lib.countByte l c=l.count c:=rfl
theorem ztE{p:uBp}(hp:p.length<=1000000)(a b:UInt8):qp p [a,b]=some (if tail2 p=[a,b]then p.take (p.length-2)else p,decide (tail2 p=[a,b])):=by unfold qp Lib.trimSuffix;rw[zfH,decide_eq_true (by omega),za];by_cases h:tail2 p=[a,b]<;>simp[h]
theorem zrg{N:Nat}(hN:1000<N)(b0 x:picture)(_hl:x.body.length<=1000):qW N N 3 0 b0 x [36,43,45]=some (picture.mk x.body x.tail (if 1<x.body.count 45 then 45 else if 1<x.body.count 43 then 43 else if 1<x.body.count 36 then 36 else x.float)):=by
 obtain⟨M,rfl⟩:∃M,N=M+4:=⟨N-4,by omega⟩
 have step:∀(n:Nat)(i:Nat)(y:picture)(c:UInt8),i<3->([36,43,45]:uBp).getD i 0=c->y.body=x.body->qW (M+4) (n+1) 3 (i:Int) b0 y [36,43,45]=
   qW (M+4) n 3 ((i+1:Nat):Int) b0 (if 1<x.body.count c then picture.mk y.body y.tail (c.toNat:Int)else y) [36,43,45]:=by
  intro n i y c hi hc hy;show zf3 (M+4) (qW (M+4) n) 3 _ b0 y _=_;unfold zf3;have hin:zn (i:Int) ([36,43,45]:uBp).length=true:=jm hi;have hcl:=uAs (a:=c) (l:=x.body);rw[zb,if_pos (by omega),hin,za,za,zJ,hc,yq,uAT,j1];show chk (true&&true) (bnd (Zk y.body [c]) fun rr1=>_)=_;rw[show Zk y.body [c]=some ((x.body.count c:Nat):Int)by show some ((Lib.countByte y.body c:Nat):Int)=_;rw[hy,zj1]];simp only[uAA,za,zc];rw[zb,zh (by omega) (by omega),za,za,show((i:Int)+1)=((i+1:Nat):Int)by omega];by_cases h:1<x.body.count c
  ·rw[if_pos (by omega),if_pos h]
  ·rw[if_neg (by omega),if_neg h]
 have st2:∀(n i:Nat)(v:Int)(c:UInt8),i<3->([36,43,45]:uBp).getD i 0=c->qW (M+4) (n+1) 3 (i:Int) b0 (picture.mk x.body x.tail v) [36,43,45]=
   qW (M+4) n 3 ((i+1:Nat):Int) b0 (picture.mk x.body x.tail (if 1<x.body.count c then(c.toNat:Int)else v)) [36,43,45]:=fun n i v c hi hc=>by
  rw[step n i (picture.mk x.body x.tail v) c hi hc rfl];by_cases h:1<x.body.count c<;>simp[h]
 have e0:qW (M+4) (M+4) 3 0 b0 x [36,43,45]=qW (M+4) (M+3+1) 3 ((0:Nat):Int) b0 (picture.mk x.body x.tail x.float) [36,43,45]:=rfl;have e9:∀z,qW (M+4) (M+1) 3 ((2+1:Nat):Int) b0 z [36,43,45]=some z:=fun z=>rfl
 rw[e0,st2 (M+3) 0 _ 36 (by decide) rfl,show M+3=M+2+1 from rfl,st2 (M+2) 1 _ 43 (by decide) rfl,show M+2=M+1+1 from rfl,st2 (M+1) 2 _ 45 (by decide) rfl,e9];rfl
theorem zts{N:Nat}(hN:1000<N){s:Shape}(hp:s.uC.length<=400):eOf N s=some (zli s):=by
 obtain⟨M,rfl⟩:∃M,N=M+4:=⟨N-4,by omega⟩
 have hbl:(edBody s.uC).length<=400:=by
  unfold edBody;split
  ·rw[mH];omega
  ·exact hp
 have fin:∀x:picture,x.body=edBody s.uC->x.tail=zG s.uC->x.float=0->∀b0,qW (M+4) (M+4) ((([36,43,45].map toByte)).length:Int) 0 b0 x ([36,43,45].map toByte)=some (zli s):=by intro x h1 h2 h3 b0;have e:=zrg (N:=M+4) hN b0 x (by rw[h1];omega);rw[show(([36,43,45]:List Int).map toByte)=([36,43,45]:uBp)from rfl];rw[show((([36,43,45]:uBp)).length:Int)=3 from rfl,e,h1,h2,h3];unfold zli flo;congr 2;by_cases k1:1<(edBody s.uC).count 45<;>by_cases k2:1<(edBody s.uC).count 43<;>by_cases k3:1<(edBody s.uC).count 36<;>simp[k1,k2,k3]
 unfold eOf;show K9 (M+4) (Va (M+4) (M+3)) 2 0 s _ _ _=_;unfold K9;have hi0:zn 0 (([[67,82],[68,66]]:List uBp)).length=true:=by decide
 have hi1:zn 1 (([[67,82],[68,66]]:List uBp)).length=true:=by decide
 rw[zb,if_pos (by decide),hi0,za,za,show atS ([[67,82],[68,66]]:List uBp) 0=[67,82]from rfl,ztE (by omega),zc];have two:∀b2:picture,Va (M+4) (M+3) 2 1 s (picture.mk [] [] 0) b2 ([[67,82],[68,66]]:List uBp)=
   qW (M+4) (M+4) ((([36,43,45].map toByte)).length:Int) 0 (picture.mk [] [] 0) (if tail2 s.uC=[68,66]then picture.mk (s.uC.take (s.uC.length-2)) [68,66] b2.float else b2) ([36,43,45].map toByte):=by
  intro b2;show K9 (M+4) (Va (M+4) (M+2)) 2 1 s _ _ _=_;unfold K9;rw[zb,if_pos (by decide),hi1,za,za,show atS ([[67,82],[68,66]]:List uBp) 1=[68,66]from rfl,ztE (by omega),zc];by_cases h:tail2 s.uC=[68,66]
  ·rw[if_pos h,if_pos h,decide_eq_true h];rfl
  ·rw[if_neg h,if_neg h,decide_eq_false h];rfl
 by_cases h:tail2 s.uC=[67,82]
 ·have h':¬tail2 s.uC=[68,66]:=by rw[h];decide
  rw[if_pos h,decide_eq_true h];dsimp only;rw[cond_true,zh (by omega) (by omega),za];show Va (M+4) (M+3) 2 1 s _ _ _=_;rw[two,if_neg h'];exact fin _ (by unfold edBody;rw[if_pos (.inl h)]) (by unfold zG;rw[if_pos (.inl h),h]) rfl _
 ·rw[if_neg h,decide_eq_false h];dsimp only;rw[cond_false,zh (by omega) (by omega),za];show Va (M+4) (M+3) 2 1 s _ _ _=_;rw[two];by_cases h':tail2 s.uC=[68,66]
  ·rw[if_pos h'];exact fin _ (by unfold edBody;rw[if_pos (.inr h')]) (by unfold zG;rw[if_pos (.inr h'),h']) rfl _
  ·rw[if_neg h'];exact fin _ (by unfold edBody;rw[if_neg (by rintro(k|k);exact h k;exact h' k)]) (by unfold zG;rw[if_neg (by rintro(k|k);exact h k;exact h' k)]) rfl _
def dig(fl c:UInt8):Bool:=decide (c=57)||(decide (c=90)||(decide (c=42)||decide (c=fl)))
theorem QH(N:Nat)(b t:uBp)(fl c:UInt8):Ve N (picture.mk b t (fl.toNat:Int)) (c.toNat:Int)=some (dig fl c):=by
 unfold Ve dig;have e57:((c.toNat:Int)=57)↔c=57:=ZB c 57 (by decide);have e90:((c.toNat:Int)=90)↔c=90:=ZB c 90 (by decide);have e42:((c.toNat:Int)=42)↔c=42:=ZB c 42 (by decide);have efl:((c.toNat:Int)=(fl.toNat:Int))↔c=fl:=by rw[<-UInt8.toNat_inj];omega
 simp only[decide_eq_decide.2 e57,decide_eq_decide.2 e90,decide_eq_decide.2 e42,decide_eq_decide.2 efl];cases decide (c=57)<;>cases decide (c=90)<;>cases decide (c=42)<;>rfl
theorem ztr{N:Nat}(hN:1000<N){b t:uBp}(fl:UInt8)(set:uBp)(hb:b.length<=400):zh7 N (picture.mk b t (fl.toNat:Int)) set=some (b.all fun c=>!dig fl c||set.contains c):=by
 have loop:∀(n i:Nat),i<=b.length->b.length-i<n->K8 N n set (b.length:Int) (i:Int) (picture.mk b t (fl.toNat:Int))=some ((b.drop i).all fun c=>!dig fl c||set.contains c):=by
  intro n;induction n with
  |zero=>intro i _ h;omega
  |succ n ih=>
   intro i hi hn;show zax N (K8 N n) set _ _ _=_;unfold zax;rw[zb];by_cases h:i<b.length
   ·have hd:b.drop i=b.getD i 0::b.drop (i+1):=zM h;have ih':=ih (i+1) (by omega) (by omega);have hlx:∀c:UInt8,ye set (c.toNat:Int)=some (Lib.indexByte set c):=fun c=>by unfold ye;rw[W7]
    rw[if_pos (by omega)];dsimp only;rw[jm h,za,zJ,QH,zc,hd,List.all_cons,zh (by omega) (by omega),show((i:Int)+1)=((i+1:Nat):Int)by omega];simp only[za];rw[ih'];cases hg:dig fl (b.getD i 0)with
    |false=>simp
    |true=>
     rw[cond_true,hlx,zc,zb];have hx:=jF (b.getD i 0) set;by_cases hc:set.contains (b.getD i 0)=true
     ·rw[if_neg (by have:=hx.2 hc;omega),hc];simp
     ·rw[if_pos (by
       by_cases h0:Lib.indexByte set (b.getD i 0)<0
       ·exact h0
       ·exact (hc (hx.1 (by omega))).elim),(Bool.not_eq_true _).mp hc]
      rfl
   ·have:i=b.length:=by omega
    subst this;rw[if_neg (by omega),uA5];rfl
 exact loop N 0 (by omega) (by omega)
structure WS where
 ds:uBp
 fst:Bool
 st:Nat
 out:uBp
 lst:Int
def zB(b:uBp):UInt8:=if b.contains 42=true then 42 else 32
def zN(fc c:UInt8)(r:Bool)(w:WS):WS:=if r=true then⟨w.ds,w.fst,w.st,w.out++[fc],(w.out.length:Int)⟩else⟨w.ds,w.fst,w.st,w.out++[c],w.lst⟩
def Yj(fc fl c:UInt8)(w:WS):Option WS:=
 if c=fl/\w.fst=false then some (zN fc c true ⟨w.ds,true,if w.st=0/\c≠57 then 1 else w.st,w.out,w.lst⟩)
 else match w.ds with
  |[]=>none
  |d::r=>some (zN fc d (decide ((if c=57\/d≠48 then 2 else if w.st=0/\c≠57 then 1 else w.st)=1)) ⟨r,w.fst,if c=57\/d≠48 then 2 else if w.st=0/\c≠57 then 1 else w.st,w.out,w.lst⟩)
def zP(fc fl:UInt8)(neg:Bool)(c:UInt8)(w:WS):Option WS:=if dig fl c=true then Yj fc fl c w else if c=86 then some ⟨w.ds,w.fst,2,w.out,w.lst⟩else if c=46 then some (zN fc 46 false ⟨w.ds,w.fst,2,w.out,w.lst⟩)else some (zN fc (shw c neg) (decide (w.st=1)) w)
def jz(fc fl:UInt8)(neg:Bool):uBp->WS->Option WS
 |[],w=>some w
 |c::b,w=>match zP fc fl neg c w with
  |some w'=>jz fc fl neg b w'
  |none=>none
theorem zmZ(N:Nat)(b t:uBp)(f:Int)(ds:uBp)(ng fs:Bool)(st l:Int)(out:uBp):VB N b t f ds ng fs st l out=some (((zB b).toNat:Int),b,t,f,ds,ng,fs,st,l,out):=by
 unfold VB zB;rw[show Qj b [42]=some (decide (0<=Lib.indexByte b 42))from rfl,zc,decide_eq_decide.2 (jF 42 b)];by_cases h:b.contains 42=true
 ·rw[decide_eq_true h,if_pos h];rfl
 ·rw[decide_eq_false h,if_neg h];rfl
theorem zkD(N:Nat)(b t:uBp)(f:Int)(ds:uBp)(ng fs:Bool)(st l:Int):Y1 N b t f ds ng fs st l=some (((zB b).toNat:Int),b,t,f,ds,ng,fs,st,l):=by
 unfold Y1 zB;rw[show Qj b [42]=some (decide (0<=Lib.indexByte b 42))from rfl,zc,decide_eq_decide.2 (jF 42 b)];by_cases h:b.contains 42=true
 ·rw[decide_eq_true h,if_pos h];rfl
 ·rw[decide_eq_false h,if_neg h];rfl
theorem zd6(N:Nat)(b t:uBp)(f:Int)(ng:Bool)(c:UInt8)(r:Bool)(w:WS)(ho:w.out.length<=1000):
  zkA N (c.toNat:Int) r b t f w.ds ng w.fst (w.st:Int) w.lst w.out=some (b,t,f,(zN (zB b) c r w).ds,ng,(zN (zB b) c r w).fst,((zN (zB b) c r w).st:Int),(zN (zB b) c r w).lst,(zN (zB b) c r w).out):=by
 have k0:∀(u:UInt8)(l:Int),zaU N (u.toNat:Int) b t f w.ds ng w.fst (w.st:Int) l w.out=some (b,t,f,w.ds,ng,w.fst,(w.st:Int),l,w.out++[u]):=fun u l=>by unfold zaU;rw[yq,uAT,j1,jP (by simp;omega)];rfl
 unfold zkA zN;cases r
 ·rw[cond_false,k0];simp
 ·rw[cond_true,zmZ,zc];simp only[];rw[k0];simp
theorem zaV(N:Nat)(b t:uBp)(f:Int)(ng:Bool)(c:UInt8)(r:Bool)(w:WS)(ho:w.out=[]):
  zc5 N (c.toNat:Int) r b t f w.ds ng w.fst (w.st:Int) w.lst=some (b,t,f,(zN (zB b) c r w).ds,ng,(zN (zB b) c r w).fst,((zN (zB b) c r w).st:Int),(zN (zB b) c r w).lst,(zN (zB b) c r w).out):=by
 have k0:∀(u:UInt8)(l:Int),Ke N (u.toNat:Int) b t f w.ds ng w.fst (w.st:Int) l=some (b,t,f,w.ds,ng,w.fst,(w.st:Int),l,[u]):=fun u l=>by unfold Ke;rw[yq,uAT,j1,jP (by simp)];rfl
 unfold zc5 zN;cases r
 ·rw[cond_false,k0];simp[ho]
 ·rw[cond_true,zkD,zc];simp only[];rw[k0];simp[ho]
end Go.Proofs.C06
end
section
set_option maxRecDepth 100000
namespace Go.Proofs.C06
open Go Go.RowKit Go.Vc Go.Am
def wT(b t:uBp)(f:Int)(ng:Bool)(w:WS):uBp×uBp×Int×uBp×Bool×Bool×Int×Int×uBp:=(b,t,f,w.ds,ng,w.fst,(w.st:Int),w.lst,w.out)
theorem zgF(N:Nat)(b t:uBp)(f:Int)(ng:Bool)(d:UInt8)(w:WS)(ho:w.out.length<=1000):
  qj N (d.toNat:Int) b t f w.ds ng w.fst (w.st:Int) w.lst w.out=some (wT b t f ng (zN (zB b) d (decide (w.st=1)) w)):=by
 unfold qj;rw[show decide ((w.st:Int)=1)=decide (w.st=1)from decide_eq_decide.2 (by omega),zd6 N b t f ng d _ w ho,zc];rfl
theorem zgG(N:Nat)(b t:uBp)(f:Int)(ng:Bool)(c:UInt8)(t30:Bool)(w:WS)(ho:w.out.length<=1000)(_hd:w.ds.length<=1000):
  Jw N (c.toNat:Int) t30 b t f w.ds ng w.fst (w.st:Int) w.lst w.out=zdS (wT b t f ng) (if t30=true then some (zN (zB b) c true ⟨w.ds,true,w.st,w.out,w.lst⟩)else match w.ds with
   |[]=>none
   |d::r=>some (zN (zB b) d (decide ((if c=57\/d≠48 then 2 else w.st)=1)) ⟨r,w.fst,if c=57\/d≠48 then 2 else w.st,w.out,w.lst⟩)):=by
 unfold Jw;cases t30
 ·rw[cond_false,if_neg (by decide)];cases hds:w.ds with
  |nil=>rfl
  |cons d r=>
   rw[hds]at _hd;have h1:zn 0 (d::r).length=true:=zt.2 ⟨by omega,by simp only[mI];omega⟩;have h2:zm 1 ((d::r).length:Int) (d::r).length=true:=by unfold zm;simp only[mI,mD,decide_eq_true_eq];omega
   have h3:byteAt (d::r) 0=(d.toNat:Int):=rfl;have h4:zX (d::r) 1=r:=rfl;have e57:((c.toNat:Int)=57)↔c=57:=ZB c 57 (by decide);have e48:((d.toNat:Int)=48)↔d=48:=ZB d 48 (by decide);rw[h1,za,h2,za,h3,h4,zb,zg];show _=some (wT b t f ng (zN (zB b) d (decide ((if c=57\/d≠48 then 2 else w.st)=1)) ⟨r,w.fst,if c=57\/d≠48 then 2 else w.st,w.out,w.lst⟩));have k2:∀st:Nat,qj N (d.toNat:Int) b t f r ng w.fst (st:Int) w.lst w.out=some (wT b t f ng (zN (zB b) d (decide (st=1)) ⟨r,w.fst,st,w.out,w.lst⟩)):=fun st=>zgF N b t f ng d ⟨r,w.fst,st,w.out,w.lst⟩ ho
   by_cases hc:c=57
   ·rw[if_pos (e57.2 hc),if_pos (.inl hc)];exact k2 2
   ·rw[if_neg (fun e=>hc (e57.1 e))];by_cases hd8:d=48
    ·rw[if_pos (e48.2 hd8),if_neg (by rintro(e|e);exact hc e;exact e hd8)];exact k2 w.st
    ·rw[if_neg (fun e=>hd8 (e48.1 e)),if_pos (.inr hd8)];exact k2 2
 ·rw[cond_true,if_pos rfl];have:=zd6 N b t f ng c true ⟨w.ds,true,w.st,w.out,w.lst⟩ ho;rw[this,zc];rfl
theorem zmY(N:Nat)(b t:uBp)(fl:UInt8)(ng:Bool)(c:UInt8)(w:WS)(ho:w.out.length<=1000)(hd:w.ds.length<=1000):
  zd7 N (c.toNat:Int) b t (fl.toNat:Int) w.ds ng w.fst (w.st:Int) w.lst w.out=zdS (wT b t (fl.toNat:Int) ng) (Yj (zB b) fl c w):=by
 have e57:((c.toNat:Int)=57)↔c=57:=ZB c 57 (by decide);have efl:((c.toNat:Int)=(fl.toNat:Int))↔c=fl:=by rw[<-UInt8.toNat_inj];omega
 have k0:∀st:Nat,st=(if w.st=0/\c≠57 then 1 else w.st)->Za N (c.toNat:Int) b t (fl.toNat:Int) w.ds ng w.fst (st:Int) w.lst w.out=zdS (wT b t (fl.toNat:Int) ng) (Yj (zB b) fl c w):=by
  intro st hst;unfold Za Yj;rw[zb,<-hst];have k1:=fun t30=>zgG N b t (fl.toNat:Int) ng c t30 ⟨w.ds,w.fst,st,w.out,w.lst⟩ ho hd
  by_cases hc:c=fl
  ·rw[if_pos (efl.2 hc)];have:=k1 (!w.fst);dsimp only at this;rw[this];cases hf:w.fst
   ·rw[if_pos (show(!false)=true from rfl),if_pos (show c=fl/\false=false from⟨hc,rfl⟩)]
   ·rw[if_neg (show¬((!true)=true)from fun h=>by cases h),if_neg (show¬(c=fl/\true=false)from fun h=>by cases h.2)];all_goals rfl
  ·rw[if_neg (fun e=>hc (efl.1 e)),if_neg (fun h=>hc h.1)];have:=k1 false;dsimp only at this;rw[this,if_neg (show¬(false=true)from fun h=>by cases h)];all_goals rfl
 unfold zd7;rw[zb,zg];by_cases h0:w.st=0
 ·rw[if_pos (by omega)];by_cases hc:c=57
  ·rw[if_pos (e57.2 hc)];exact k0 w.st (by rw[if_neg (fun h=>h.2 hc)])
  ·rw[if_neg (fun e=>hc (e57.1 e))];exact k0 1 (by rw[if_pos ⟨h0,hc⟩])
 ·rw[if_neg (by omega)];exact k0 w.st (by rw[if_neg (fun h=>h0 h.1)])
theorem zeI(N:Nat)(b t:uBp)(f:Int)(ng:Bool)(d:UInt8)(w:WS)(ho:w.out=[]):
  yp N (d.toNat:Int) b t f w.ds ng w.fst (w.st:Int) w.lst=some (wT b t f ng (zN (zB b) d (decide (w.st=1)) w)):=by
 unfold yp;rw[show decide ((w.st:Int)=1)=decide (w.st=1)from decide_eq_decide.2 (by omega),zaV N b t f ng d _ w ho,zc];rfl
theorem zeJ(N:Nat)(b t:uBp)(f:Int)(ng:Bool)(c:UInt8)(t30:Bool)(w:WS)(ho:w.out=[])(_hd:w.ds.length<=1000):
  Zz N (c.toNat:Int) t30 b t f w.ds ng w.fst (w.st:Int) w.lst=zdS (wT b t f ng) (if t30=true then some (zN (zB b) c true ⟨w.ds,true,w.st,w.out,w.lst⟩)else match w.ds with
   |[]=>none
   |d::r=>some (zN (zB b) d (decide ((if c=57\/d≠48 then 2 else w.st)=1)) ⟨r,w.fst,if c=57\/d≠48 then 2 else w.st,w.out,w.lst⟩)):=by
 unfold Zz;cases t30
 ·rw[cond_false,if_neg (by decide)];cases hds:w.ds with
  |nil=>rfl
  |cons d r=>
   rw[hds]at _hd;have h1:zn 0 (d::r).length=true:=zt.2 ⟨by omega,by simp only[mI];omega⟩;have h2:zm 1 ((d::r).length:Int) (d::r).length=true:=by unfold zm;simp only[mI,mD,decide_eq_true_eq];omega
   have h3:byteAt (d::r) 0=(d.toNat:Int):=rfl;have h4:zX (d::r) 1=r:=rfl;have e57:((c.toNat:Int)=57)↔c=57:=ZB c 57 (by decide);have e48:((d.toNat:Int)=48)↔d=48:=ZB d 48 (by decide);rw[h1,za,h2,za,h3,h4,zb,zg];show _=some (wT b t f ng (zN (zB b) d (decide ((if c=57\/d≠48 then 2 else w.st)=1)) ⟨r,w.fst,if c=57\/d≠48 then 2 else w.st,w.out,w.lst⟩));have k2:∀st:Nat,yp N (d.toNat:Int) b t f r ng w.fst (st:Int) w.lst=some (wT b t f ng (zN (zB b) d (decide (st=1)) ⟨r,w.fst,st,w.out,w.lst⟩)):=fun st=>zeI N b t f ng d ⟨r,w.fst,st,w.out,w.lst⟩ ho
   by_cases hc:c=57
   ·rw[if_pos (e57.2 hc),if_pos (.inl hc)];exact k2 2
   ·rw[if_neg (fun e=>hc (e57.1 e))];by_cases hd8:d=48
    ·rw[if_pos (e48.2 hd8),if_neg (by rintro(e|e);exact hc e;exact e hd8)];exact k2 w.st
    ·rw[if_neg (fun e=>hd8 (e48.1 e)),if_pos (.inr hd8)];exact k2 2
 ·rw[cond_true,if_pos rfl];have:=zaV N b t f ng c true ⟨w.ds,true,w.st,w.out,w.lst⟩ ho;rw[this,zc];rfl
theorem zkC(N:Nat)(b t:uBp)(fl:UInt8)(ng:Bool)(c:UInt8)(w:WS)(ho:w.out=[])(hd:w.ds.length<=1000):
  zaW N (c.toNat:Int) b t (fl.toNat:Int) w.ds ng w.fst (w.st:Int) w.lst=zdS (wT b t (fl.toNat:Int) ng) (Yj (zB b) fl c w):=by
 have e57:((c.toNat:Int)=57)↔c=57:=ZB c 57 (by decide);have efl:((c.toNat:Int)=(fl.toNat:Int))↔c=fl:=by rw[<-UInt8.toNat_inj];omega
 have k0:∀st:Nat,st=(if w.st=0/\c≠57 then 1 else w.st)->qv N (c.toNat:Int) b t (fl.toNat:Int) w.ds ng w.fst (st:Int) w.lst=zdS (wT b t (fl.toNat:Int) ng) (Yj (zB b) fl c w):=by
  intro st hst;unfold qv Yj;rw[zb,<-hst];have k1:=fun t30=>zeJ N b t (fl.toNat:Int) ng c t30 ⟨w.ds,w.fst,st,w.out,w.lst⟩ ho hd
  by_cases hc:c=fl
  ·rw[if_pos (efl.2 hc)];have:=k1 (!w.fst);dsimp only at this;rw[this];cases hf:w.fst
   ·rw[if_pos (show(!false)=true from rfl),if_pos (show c=fl/\false=false from⟨hc,rfl⟩)]
   ·rw[if_neg (show¬((!true)=true)from fun h=>by cases h),if_neg (show¬(c=fl/\true=false)from fun h=>by cases h.2)];all_goals rfl
  ·rw[if_neg (fun e=>hc (efl.1 e)),if_neg (fun h=>hc h.1)];have:=k1 false;dsimp only at this;rw[this,if_neg (show¬(false=true)from fun h=>by cases h)];all_goals rfl
 unfold zaW;rw[zb,zg];by_cases h0:w.st=0
 ·rw[if_pos (by omega)];by_cases hc:c=57
  ·rw[if_pos (e57.2 hc)];exact k0 w.st (by rw[if_neg (fun h=>h.2 hc)])
  ·rw[if_neg (fun e=>hc (e57.1 e))];exact k0 1 (by rw[if_pos ⟨h0,hc⟩])
 ·rw[if_neg (by omega)];exact k0 w.st (by rw[if_neg (fun h=>h0 h.1)])
theorem yV(fc c:UInt8)(r:Bool)(w:WS):(zN fc c r w).out.length=w.out.length+1/\(zN fc c r w).ds=w.ds:=by unfold zN;split<;>simp
theorem zku{fc fl c:UInt8}{w w':WS}(h:Yj fc fl c w=some w'):w'.out.length=w.out.length+1/\w'.ds.length<=w.ds.length:=by
 unfold Yj at h;split at h
 ·cases h;have:=yV fc c true ⟨w.ds,true,if w.st=0/\c≠57 then 1 else w.st,w.out,w.lst⟩;rw[this.2];exact⟨this.1,mG _⟩
 ·split at h
  ·cases h
  ·rename_i d r hd;cases h;have:=yV fc d (decide ((if c=57\/d≠48 then 2 else if w.st=0/\c≠57 then 1 else w.st)=1)) ⟨r,w.fst,if c=57\/d≠48 then 2 else if w.st=0/\c≠57 then 1 else w.st,w.out,w.lst⟩;rw[this.2,hd];exact⟨this.1,by simp⟩
theorem zg7{fc fl c:UInt8}{neg:Bool}{w w':WS}(h:zP fc fl neg c w=some w'):w'.out.length<=w.out.length+1/\w.out.length<=w'.out.length/\w'.ds.length<=w.ds.length/\(w'.out=[]->c=86/\w.out=[]):=by
 unfold zP at h;split at h
 ·have:=zku h;exact⟨by omega,by omega,this.2,fun e=>by rw[e]at this;simp at this⟩
 ·split at h
  ·rename_i hc;cases h;exact⟨by simp,by simp,mG _,fun e=>⟨hc,e⟩⟩
  ·split at h
   ·cases h;have:=yV fc 46 false ⟨w.ds,w.fst,2,w.out,w.lst⟩;rw[this.2];exact⟨by rw[this.1];simp,by rw[this.1];simp,mG _,fun e=>by have:=this.1;rw[e]at this;simp at this⟩
   ·cases h;have:=yV fc (shw c neg) (decide (w.st=1)) w;rw[this.2];exact⟨by rw[this.1];exact mG _,by rw[this.1];omega,mG _,fun e=>by have:=this.1;rw[e]at this;simp at this⟩
def X6(fl:UInt8)(neg:Bool)(t:uBp)(w:WS):uBp:=(if fl≠0/\0<=w.lst then w.out.set w.lst.toNat (shw fl neg)else w.out)++(if neg=true then t else List.replicate t.length 32)
theorem Kd(N:Nat)(b t:uBp)(f:Int)(neg:Bool)(w:WS)(_hw:w.out.length<=1000)(ht:t.length<=10)(out:uBp)(ho:out.length<=1000):
  ∃r,wWrite_k1s1 N b t f w.ds neg w.fst (w.st:Int) w.lst out=some r/\r.1=out++(if neg=true then t else List.replicate t.length 32):=by
 unfold wWrite_k1s1;have k2:∀u:uBp,u.length<=10->∃r,Zy N u b t f w.ds neg w.fst (w.st:Int) w.lst out=some r/\r.1=out++u:=fun u hu=>by unfold Zy;rw[jP (by simp;omega),za];exact⟨_,rfl,rfl⟩
 cases neg
 ·rw[uA4,cond_true,KL 32 (by omega),zc,if_neg (by decide)];exact k2 _ (by simp;omega)
 ·rw[uAb,cond_false,if_pos rfl];exact k2 _ ht
theorem zeC(N:Nat)(b t:uBp)(fl:UInt8)(neg:Bool)(w:WS)(hw:w.out.length<=1000)(ht:t.length<=10)(hl:w.lst<(w.out.length:Int)):
  ∃r,Yl N b t (fl.toNat:Int) w.ds neg w.fst (w.st:Int) w.lst w.out=some r/\r.1=X6 fl neg t w:=by
 have k3:∀q:Bool,q=decide (fl≠0/\0<=w.lst)->∃r,Zx N q b t (fl.toNat:Int) w.ds neg w.fst (w.st:Int) w.lst w.out=some r/\r.1=X6 fl neg t w:=by
  intro q hq;unfold Zx X6;by_cases h:fl≠0/\0<=w.lst
  ·rw[hq,decide_eq_true h,cond_true,Xw,zc,if_pos h];have hi:zn w.lst w.out.length=true:=zt.2 ⟨h.2,hl⟩;rw[hi,yq,za,j1];exact Kd N b t _ neg w hw ht _ (by simpa using hw)
  ·rw[hq,decide_eq_false h,cond_false,if_neg h];exact Kd N b t _ neg w hw ht _ hw
 unfold Yl;rw[zg];have e0:((fl.toNat:Int)=0)↔fl=0:=ZB fl 0 (by decide);by_cases h:fl=0
 ·rw[if_pos (e0.2 h)];exact k3 false (by simp[h])
 ·rw[if_neg (fun e=>h (e0.1 e))];exact k3 _ (by simp[h])
theorem zaS{fc c:UInt8}{r:Bool}{w:WS}(h:w.lst<(w.out.length:Int)):(zN fc c r w).lst<((zN fc c r w).out.length:Int):=by unfold zN;split<;>simp<;>omega
theorem zg8{fc fl c:UInt8}{neg:Bool}{w w':WS}(h:zP fc fl neg c w=some w')(hl:w.lst<(w.out.length:Int)):w'.lst<(w'.out.length:Int):=by
 unfold zP at h;split at h
 ·unfold Yj at h;split at h
  ·cases h;exact zaS hl
  ·split at h
   ·cases h
   ·cases h;exact zaS hl
 ·split at h
  ·cases h;exact hl
  ·split at h
   ·cases h;exact zaS hl
   ·cases h;exact zaS hl
section
variable {N : Nat} {b t : uBp} {fl : UInt8} {neg : Bool} (hb : b.length <= 400) (ht : t.length <= 10)
include hb ht
theorem zeD:∀(n i:Nat)(w:WS),i<=b.length->b.length-i<n->w.out.length<=i->w.ds.length<=1000->w.lst<(w.out.length:Int)->∀w',jz (zB b) fl neg (b.drop i) w=some w'->
  ∃r,qu N n (.inr ((b.length:Int),(i:Int),b,t,(fl.toNat:Int),w.ds,neg,w.fst,(w.st:Int),w.lst,w.out))=some r/\r.1=X6 fl neg t w'
 |0,i,w,_,h,_,_,_,_,_=>by omega
 |n+1,i,w,hi,hn,ho,hd,hl,w',hr=>by
  show∃r,QU N (qu N n) _ _ b t _ w.ds neg w.fst _ w.lst w.out=some r/\_;unfold QU;rw[zb];by_cases h:i<b.length
  ·rw[if_pos (by omega),jm h,za,zJ,QH,zc];rw[zM h]at hr;obtain⟨c,hc⟩:∃c,b.getD i 0=c:=⟨_,rfl⟩
   rw[hc]at hr⊢;unfold jz at hr;split at hr
   ·rename_i w1 hs;have hout:=zg7 hs;have hlst:=zg8 hs hl;have ih:=zeD n (i+1) w1 (by omega) (by omega) (by omega) (by omega) hlst w' hr;have hk:zd .i64 ((i:Int)+1)=true:=zh (by omega) (by omega);have e86:((c.toNat:Int)=86)↔c=86:=ZB c 86 (by decide);have e46:((c.toNat:Int)=46)↔c=46:=ZB c 46 (by decide);rw[show((i:Int)+1)=((i+1:Nat):Int)by omega]at hk⊢;unfold zP at hs;cases hg:dig fl c with
    |true=>rw[hg,if_pos rfl]at hs;rw[cond_true,zmY N b t fl neg c w (by omega) hd,hs];show∃r,bnd (some (wT b t (fl.toNat:Int) neg w1)) _=some r/\_;rw[zc,hk,za];exact ih
    |false=>
     rw[hg,if_neg (by decide)]at hs;rw[cond_false,zb,zb];by_cases h86:c=86
     ·rw[if_pos h86]at hs;cases hs;rw[if_pos (e86.2 h86),hk,za];exact ih
     ·rw[if_neg h86]at hs;rw[if_neg (fun e=>h86 (e86.1 e))];by_cases h46:c=46
      ·rw[if_pos h46]at hs;cases hs;rw[if_pos (e46.2 h46),h46];have:=zd6 N b t (fl.toNat:Int) neg 46 false ⟨w.ds,w.fst,2,w.out,w.lst⟩ (by show w.out.length<=1000;omega);rw[show zkA N ((46:UInt8).toNat:Int) false b t (fl.toNat:Int) w.ds neg w.fst 2 w.lst w.out=_ from this,zc,hk,za];exact ih
      ·rw[if_neg h46]at hs;cases hs;rw[if_neg (fun e=>h46 (e46.1 e)),Xw,zc,show decide ((w.st:Int)=1)=decide (w.st=1)from decide_eq_decide.2 (by omega),zd6 N b t (fl.toNat:Int) neg _ _ w (by omega),zc,hk,za];exact ih
   ·cases hr
  ·have e:i=b.length:=by omega
   subst e;rw[uA5]at hr;cases hr;rw[if_neg (by omega)];exact zeC N b t fl neg w (by omega) ht hl
theorem zeE:∀(n i:Nat)(w:WS),i<=b.length->b.length-i<n->w.out=[]->w.ds.length<=1000->w.lst<0->∀w',jz (zB b) fl neg (b.drop i) w=some w'->w'.out≠[]->
  ∃r,qu N n (.inl ((b.length:Int),(i:Int),b,t,(fl.toNat:Int),w.ds,neg,w.fst,(w.st:Int),w.lst))=some r/\r.1=X6 fl neg t w'
 |0,i,w,_,h,_,_,_,_,_,_=>by omega
 |n+1,i,w,hi,hn,ho,hd,hl,w',hr,hne=>by
  show∃r,QV N (qu N n) _ _ b t _ w.ds neg w.fst _ w.lst=some r/\_;unfold QV;rw[zb];by_cases h:i<b.length
  ·rw[if_pos (by omega),jm h,za,zJ,QH,zc];rw[zM h]at hr;obtain⟨c,hc⟩:∃c,b.getD i 0=c:=⟨_,rfl⟩
   rw[hc]at hr⊢;unfold jz at hr;split at hr
   ·rename_i w1 hs;have hout:=zg7 hs;rw[ho]at hout;have hlst:=zg8 hs (by rw[ho];exact hl);have ih:=zeD (N:=N) (fl:=fl) (neg:=neg) hb ht n (i+1) w1 (by omega) (by omega) (by simp at hout;omega) (by omega) hlst w' hr;have hk:zd .i64 ((i:Int)+1)=true:=zh (by omega) (by omega);have e86:((c.toNat:Int)=86)↔c=86:=ZB c 86 (by decide);have e46:((c.toNat:Int)=46)↔c=46:=ZB c 46 (by decide);rw[show((i:Int)+1)=((i+1:Nat):Int)by omega]at hk⊢;unfold zP at hs;cases hg:dig fl c with
    |true=>rw[hg,if_pos rfl]at hs;rw[cond_true,zkC N b t fl neg c w ho hd,hs];show∃r,bnd (some (wT b t (fl.toNat:Int) neg w1)) _=some r/\_;rw[zc,hk,za];exact ih
    |false=>
     rw[hg,if_neg (by decide)]at hs;rw[cond_false,zb,zb];by_cases h86:c=86
     ·rw[if_pos h86]at hs;cases hs;rw[if_pos (e86.2 h86),hk,za];exact zeE n (i+1) ⟨w.ds,w.fst,2,w.out,w.lst⟩ (by omega) (by omega) ho hd hl w' hr hne
     ·rw[if_neg h86]at hs;rw[if_neg (fun e=>h86 (e86.1 e))];by_cases h46:c=46
      ·rw[if_pos h46]at hs;cases hs;rw[if_pos (e46.2 h46),h46];have:=zaV N b t (fl.toNat:Int) neg 46 false ⟨w.ds,w.fst,2,w.out,w.lst⟩ ho;rw[show zc5 N ((46:UInt8).toNat:Int) false b t (fl.toNat:Int) w.ds neg w.fst 2 w.lst=_ from this,zc,hk,za];exact ih
      ·rw[if_neg h46]at hs;cases hs;rw[if_neg (fun e=>h46 (e46.1 e)),Xw,zc,show decide ((w.st:Int)=1)=decide (w.st=1)from decide_eq_decide.2 (by omega),zaV N b t (fl.toNat:Int) neg _ _ w ho,zc,hk,za];exact ih
   ·cases hr
  ·have e:i=b.length:=by omega
   subst e;rw[uA5]at hr;cases hr;exact (hne ho).elim
theorem zp6(hN:1000<N)(ds:uBp)(hd:ds.length<=1000){w':WS}(hr:jz (zB b) fl neg b ⟨ds,false,0,[],-1⟩=some w')(hne:w'.out≠[])(l0:Int):
  ∃r,zeF N b t (fl.toNat:Int) ds neg false 0 l0=some r/\r.1=X6 fl neg t w':=by
 unfold zeF;exact zeE (N:=N) hb ht N 0 ⟨ds,false,0,[],-1⟩ (by omega) (by omega) rfl hd (by show(-1:Int)<0;decide) w' hr hne
end
end Go.Proofs.C06
end
section
set_option maxRecDepth 100000
namespace Go.Proofs.C06
open Go Go.RowKit Go.Vc Go.Am
theorem zpV{set:uBp}:∀{s:uBp},cnt set s=s.length->∀c∈s,set.contains c=true
 |[],_,c,hc=>by cases hc
 |x::s,h,c,hc=>by
  rw[qd]at h;split at h
  ·rename_i hx;rcases mU.1 hc with rfl|hc
   ·exact hx
   ·exact zpV (by simpa using h) c hc
  ·simp at h
theorem zs2{p:uBp}{sh:Shape}(h:Good p sh):chkV sh=0:=by
 have hpar:=zqY h;have hc:=h.cat;have hu:=h.use;have e1:ZC sh=0:=by
  unfold ZC;rw[if_neg (by omega),if_neg (by omega),if_neg];rintro⟨h4,h5|h5⟩
  ·have:=h.num h4;omega
  ·have:=h.dig;omega
 unfold chkV;rw[if_neg (fun k=>k e1),if_neg (by omega)];unfold zfj;rw[h.pic,hpar];simp only[ne_eq,not_true_eq_false,if_false,h.pic,or_self,decide_false];unfold Ki;simp[h.led,h.sep,h.jus,h.bla,h.siz,hu]
end Go.Proofs.C06
end
