/-
  A part of the proof of the laws.
-/
import Derived.Test.YtannhfbidakffaaGreatDoorPc
import Derived.Test.YtannhfbidakffaaGreatDoorS6a
set_option maxRecDepth 100000
namespace Go.Proofs.C06
open Go Go.RowKit Go.Vc Go.Am
def zaN(s:Shape)(c:Int):Int:=if chkV s≠0 then 1 else if s.uC≠c then 12 else 0
theorem zpp{N:Nat}(B:1000<N){s:Shape}(hp:s.uD.length<=400)(c:Int):zpq N s c=some (zaN s c):=by
 unfold zpq zaN;rw[ZY B hp,zc,zj,zj];by_cases h:chkV s=0
 ·by_cases j:s.uC=c<;>simp[h,j]
 ·simp[h]
def zDo(c:UInt8)(neg:Bool):UInt8:=if neg=true then 45 else if c=43 then 43 else 32
def shw(c:UInt8)(neg:Bool):UInt8:=if c=66 then 32 else if c=48 then 48 else if c=47 then 47 else if c=44 then 44 else if c=46 then 46 else if c=36 then 36 else zDo c neg
theorem Ju(c:UInt8)(k:Nat)(hk:k<256):((c.toNat:Int)=(k:Int))↔c=UInt8.ofNat k:=by
 have j:(UInt8.ofNat k).toNat=k:=by simp;omega
 rw[<-UInt8.toNat_inj,j];omega
theorem zyz(N:Nat)(c:UInt8)(neg:Bool):zt0 N (c.toNat:Int) neg=some ((zDo c neg).toNat:Int):=by
 unfold zt0 zDo;have j:=Ju c 43 dE;cases neg
 ·by_cases h:c=43
  ·subst h;rfl
  ·have:decide ((c.toNat:Int)=43)=false:=decide_eq_false (fun e=>h (j.1 e));rw[this];simp[h]
 ·rfl
theorem zuv(c:UInt8)(k:Nat)(hk:k<256):((k:Int)=(c.toNat:Int))↔c=UInt8.ofNat k:=by rw[eq_comm];exact Ju c k hk
theorem Kl(N:Nat)(c:UInt8)(neg:Bool):Qa N (c.toNat:Int) neg=some ((shw c neg).toNat:Int):=by
 by_cases B:c=66
 ·subst B;rfl
 by_cases I:c=48
 ·subst I;rfl
 by_cases O:c=47
 ·subst O;rfl
 by_cases U:c=44
 ·subst U;rfl
 by_cases j:c=46
 ·subst j;rfl
 by_cases H:c=36
 ·subst H;rfl
 unfold Qa shw;have Z:decide ((66:Int)=(c.toNat:Int))=false:=decide_eq_false (fun e=>B ((zuv c 66 dE).1 e));have S:decide ((48:Int)=(c.toNat:Int))=false:=decide_eq_false (fun e=>I ((zuv c 48 dE).1 e));have d47:decide ((47:Int)=(c.toNat:Int))=false:=decide_eq_false (fun e=>O ((zuv c 47 dE).1 e));have J:decide ((44:Int)=(c.toNat:Int))=false:=decide_eq_false (fun e=>U ((zuv c 44 dE).1 e));have Y:decide ((46:Int)=(c.toNat:Int))=false:=decide_eq_false (fun e=>j ((zuv c 46 dE).1 e));have d36:decide ((36:Int)=(c.toNat:Int))=false:=decide_eq_false (fun e=>H ((zuv c 36 dE).1 e));rw[Z,S,d47,J,Y,d36,if_neg B,if_neg I,if_neg O,if_neg U,if_neg j,if_neg H,zyz];rfl
def txt:uAU->uAU->uAU
 |[],_=>[]
 |c::p,b=>if c=65\/c=88\/c=57 then b.headD 32::txt p b.tail else shw c false::txt p b
theorem yG(c:UInt8):inKb .u8 (c.toNat:Int)=true:=yq.2 ⟨by show(0:Int)<=_;omega,by show(c.toNat:Int)<=255;have:=c.toNat_lt;omega⟩
theorem yw(c:UInt8):toByte (c.toNat:Int)=c:=by unfold toByte;simp
theorem zyB(N:Nat)(b:uAU):zt1 N b=some (((b.headD 32).toNat:Int),b.tail):=by
 unfold zt1;rw[zb];cases b with
 |nil=>rfl
 |cons c r=>
  rw[if_neg (by simp only[mM];omega)];have j:inIx 0 (c::r).length=true:=zw.2 ⟨oM,by simp only[mM];omega⟩;have B:zk 1 ((c::r).length:Int) (c::r).length=true:=by unfold zk;simp only[mM,mF,decide_eq_true_eq];omega
  rw[j,B,za,za,zws];rfl
theorem zp7{N:Nat}(B:Int->Int->Shape->uAU->uAU->Option (uAU×Int))(u:UInt8)(t:Int)(i:Nat)(s:Shape)(out b:uAU)(hi:i<=1000)(ho:out.length<=1000)(j:Bool):
  XI N B (u.toNat:Int) t (i:Int) j s out b=if j=true then B t ((i+1:Nat):Int) s (out++[b.headD 32]) b.tail else B t ((i+1:Nat):Int) s (out++[shw u false]) b:=by
 unfold XI;have hk:inKb .i64 ((i:Int)+1)=true:=zh oM oM;have H:∀c:UInt8,je 1 (out++[c]).length=true:=fun c=>Zn (by rw[mO,uAz];omega)
 cases j
 ·rw[cond_false,Kl,zc,yG,List.map_singleton,yw,H,hk];rfl
 ·rw[cond_true,zyB,zc];simp only[];rw[yG,List.map_singleton,yw,H,hk];rfl
theorem clip_is{N:Nat}(l:uAU):Xz N l=some l:=by
 unfold Xz;have h:zk 0 (l.length:Int) l.length=true:=by unfold zk;simp only[mF,decide_eq_true_eq];omega
 simp[h,Vc.sub]
theorem Qj{N:Nat}{s:Shape}(S:s.uD.length<=400):∀(n i:Nat)(out b:uAU),i<=s.uD.length->s.uD.length-i<n->out.length+(s.uD.length-i)<=1000->
  Jr N n (s.uD.length:Int) (i:Int) s out b=some (out++txt (s.uD.drop i) b,0)
 |0,i,out,b,_,h,_=>oM
 |n+1,i,out,b,hi,hn,ho=>by
  show zbQ N (Jr N n) _ _ s out b=_;unfold zbQ;rw[zb];by_cases h:i<s.uD.length
  ·rw[if_pos oM,jB h,za,zP];obtain⟨c,hc⟩:∃c,s.uD.getD i 0=c:=⟨_,rfl⟩
   have Y:s.uD.drop i=c::s.uD.drop (i+1):=by rw[uAl h,<-hc,mN,mJ h];rfl
   rw[hc,Y];have j:((c.toNat:Int)=65)↔c=65:=Ju c 65 dE;have B:((c.toNat:Int)=88)↔c=88:=Ju c 88 dE;have H:((c.toNat:Int)=57)↔c=57:=Ju c 57 dE;have U:=fun o=>Qj (N:=N) S n (i+1) (out++[o])
   have yes:(c=65\/c=88\/c=57)->Jr N n (s.uD.length:Int) ((i+1:Nat):Int) s (out++[b.headD 32]) b.tail=some (out++txt (c::s.uD.drop (i+1)) b,0):=fun hh=>by rw[Qj S n (i+1) _ _ oM oM (by rw[mO,uAz];omega)];rw[txt,if_pos hh,mR];rfl
   have no:¬(c=65\/c=88\/c=57)->Jr N n (s.uD.length:Int) ((i+1:Nat):Int) s (out++[shw c false]) b=some (out++txt (c::s.uD.drop (i+1)) b,0):=fun hh=>by rw[Qj S n (i+1) _ _ oM oM (by rw[mO,uAz];omega)];rw[txt,if_neg hh,mR];rfl
   simp only[zp7 _ c _ i s out b oM oM,zb,decide_eq_true_eq];by_cases I:c=65
   ·rw[if_pos (j.2 I),if_pos (j.2 I)];exact yes (.inl I)
   ·rw[if_neg (fun e=>I (j.1 e))];by_cases J:c=88
    ·rw[if_pos (B.2 J),if_pos (B.2 J)];exact yes (.inr (.inl J))
    ·rw[if_neg (fun e=>J (B.1 e))];by_cases O:c=57
     ·rw[if_pos (H.2 O)];exact yes (.inr (.inr O))
     ·rw[if_neg (fun e=>O (H.1 e))];exact no (by rintro(e|e|e)<;>contradiction)
  ·have:i=s.uD.length:=oM
   subst this;rw[if_neg oM,clip_is,zc,List.drop_length];simp[txt]
theorem zzd{N:Nat}(I:1000<N){s:Shape}(hp:s.uD.length<=400)(b:uAU)(H:zaN s 3=0->0<=s.uE/\s.uE<=1000):
  zuc N b s=some (if zaN s 3≠0 then([],zaN s 3)else(txt s.uD b,0)):=by
 unfold zuc;rw[zpp I hp,zc,zj];by_cases h:zaN s 3=0
 ·obtain⟨j,J⟩:=H h;have B:X3 1 s.uE=true:=by obtain⟨k,hk⟩:=Int.eq_ofNat_of_zero_le j;rw[hk];show(Nat.ble (1*k) 281474976710656&&Nat.ble k 9223372036854775807)=true;simp only[mF,uAQ];omega
  rw[if_pos h,if_neg (fun k=>k h),B,decide_eq_true j,uAi,Bool.and_true,show decide ((0:Nat)<=0)=true from rfl,za];have:=Qj (N:=N) hp N 0 [] b oM oM (by simp;omega);simpa using this
 ·rw[if_neg h,if_pos h]
theorem Qe(c:UInt8):∀t:uAU,t=List.replicate (cnt [c] t) c++t.drop (cnt [c] t)
 |[]=>rfl
 |x::t=>by
  rw[yf];by_cases h:x=c
  ·subst h;have j:=Qe x t
   grind
  grind
theorem zic{t:uAU}{c:UInt8}(h:t.getD 0 0=c)(hc:c≠0):t=c::t.drop 1:=by
 cases t with
 |nil=>exact (hc (by simpa using h.symm)).elim
 |cons x r=>simp only[List.getD_cons_zero]at h;subst h;rfl
theorem zo8{sg dg sc:Nat}{t:uAU}{d c:Nat}{s:Bool}(h:fin sg dg sc t=some (d,c,s)):
  d=dg/\c=sc/\(t=[]\/t=[43]\/t=[45])/\s=decide (0<sg+t.length)/\sg+t.length<2/\0<dg:=by
 unfold fin at h;split at h
 ·grind
 ·split at h
  ·simp_all
  ·cases h
theorem zBW{sym:uAU}{m:Nat}{t:uAU}(I:sym=[]\/∃y,sym=[y]):∃x,t=List.replicate (fr sym m t) x++t.drop (fr sym m t)/\
  (0<fr sym m t->x=57\/(m=0/\((∃y,sym=[y]/\x=y)\/(sym=[]/\(x=90\/x=42))))):=by
 by_cases j:0<cnt [57] t\/0<m
 ·rw[show fr sym m t=cnt [57] t by unfold fr;rw[if_pos j]];exact⟨57,Qe 57 t,fun _=>.inl rfl⟩
 ·have H:m=0:=oM
  rcases I with rfl|⟨y,rfl⟩
  ·by_cases B:t.getD 0 0=90\/t.getD 0 0=42
   ·rw[show fr [] m t=cnt [t.getD 0 0] t by unfold fr;rw[if_neg j,if_neg sI,if_pos B]];exact⟨t.getD 0 0,Qe _ t,fun _=>.inr ⟨H,.inr ⟨rfl,B⟩⟩⟩
   ·rw[show fr [] m t=0 by unfold fr;rw[if_neg j,if_neg sI,if_neg B]];simp_all
  ·rw[show fr [y] m t=cnt [y] t by unfold fr;rw[if_neg j,if_pos sI]];exact⟨y,Qe y t,fun _=>.inr ⟨H,.inl ⟨y,rfl,rfl⟩⟩⟩
theorem zvp{sg dg m:Nat}{sym t:uAU}{d c:Nat}{s:Bool}(Y:sym=[]\/∃y,sym=[y])(h:zrD sg dg sym m t=some (d,c,s)):
  ∃(pt:uAU)(x:UInt8)(f:Nat)(e:uAU),t=pt++(List.replicate f x++e)/\(pt=[]/\f=0\/pt=[46]/\0<f\/pt=[86])/\(e=[]\/e=[43]\/e=[45])/\d=dg+f/\c=f/\
   s=decide (0<sg+e.length)/\sg+e.length<2/\0<d/\(0<f->x=57\/(m=0/\((∃y,sym=[y]/\x=y)\/(sym=[]/\(x=90\/x=42))))):=by
 unfold zrD at h;split at h
 ·rename_i hp;split at h
  ·cases h
  ·rename_i S;obtain⟨rfl,rfl,I,O,J,H⟩:=zo8 h;obtain⟨x,U,j⟩:=zBW (sym:=sym) (m:=m) (t:=t.drop 1) Y;refine⟨[t.getD 0 0],x,fr sym m (t.drop 1),t.drop (1+fr sym m (t.drop 1)),?_,?_,I,rfl,rfl,O,J,H,j⟩
   ·rw[<-mZ,<-U];rcases hp with hp|hp
    ·rw[hp];exact zic hp dE
    ·rw[hp];exact zic hp dE
   ·rcases hp with hp|hp
    ·rw[hp];right;left;refine⟨rfl,?_⟩;rcases Nat.eq_zero_or_pos (fr sym m (t.drop 1))with B|B
     ·exact (S ⟨hp,B⟩).elim
     ·exact B
    ·rw[hp];exact .inr (.inr rfl)
 ·obtain⟨rfl,rfl,I,O,J,H⟩:=zo8 h;exact⟨[],0,0,t,rfl,.inl ⟨rfl,rfl⟩,I,rfl,rfl,O,J,H,fun h=>oM⟩
structure EdF(sg0:Nat)(q:uAU)(dg sc:Nat)(sn:Bool)(s1 m1:uAU)(c:UInt8)(k m:Nat)(pt:uAU)(x:UInt8)(f:Nat)(e:uAU):Prop where
 eq:q=s1++(m1++(List.replicate k c++(List.replicate m 57++(pt++(List.replicate f x++e)))))
 hs1:s1=[]\/s1=[43]\/s1=[45]
 hm1:m1=[]\/m1=[36]
 he:e=[]\/e=[43]\/e=[45]
 hpt:pt=[]/\f=0\/pt=[46]/\0<f\/pt=[86]
 run:k=0\/c=90\/c=42\/(2<=k/\(c=36\/c=43\/c=45))
 fx:0<f->x=57\/(m=0/\((0<k/\x=c)\/(k=0/\(x=90\/x=42))))
 dol:m1=[36]->0<k->c≠36
 hsg:sg0+s1.length+(if 0<k/\(c=43\/c=45)then 1 else 0)+e.length<2
 hsn:sn=decide (0<sg0+s1.length+(if 0<k/\(c=43\/c=45)then 1 else 0)+e.length)
 hdg:dg=(if 0<k/\(c=36\/c=43\/c=45)then k-1 else k)+m+f
 hsc:sc=f
 pos:0<dg
def EdG(sg0:Nat)(q:uAU)(dg sc:Nat)(j:Bool):Prop:=∃s1 m1 c k m pt x f e,EdF sg0 q dg sc j s1 m1 c k m pt x f e
theorem zoz{sg0 dg0:Nat}{t:uAU}{d U:Nat}{S:Bool}{s1 m1:uAU}{c:UInt8}{k:Nat}{sym:uAU}(O:s1=[]\/s1=[43]\/s1=[45])(J:m1=[]\/m1=[36])
  (j:k=0\/c=90\/c=42\/(2<=k/\(c=36\/c=43\/c=45))) (B:(k=0/\sym=[])\/(0<k/\sym=[c])) (H:m1=[36]->0<k->c≠36)
  (I:dg0=if 0<k/\(c=36\/c=43\/c=45)then k-1 else k)
  (h:nin (sg0+s1.length+(if 0<k/\(c=43\/c=45)then 1 else 0)) dg0 sym t=some (d,U,S)):EdG sg0 (s1++(m1++(List.replicate k c++t))) d U S:=by
 unfold nin at h;obtain⟨pt,x,f,e,Y,h2,h3,h4,h5,h6,Z,h8,h9⟩:=zvp (by rcases B with⟨_,h⟩|⟨_,h⟩;exact .inl h;exact .inr ⟨_,h⟩) h;refine⟨s1,m1,c,k,cnt [57] t,pt,x,f,e,?_,O,J,h3,h2,j,fun hf=>?_,H,Z,h6,by rw[h4,I],h5,h8⟩
 ·rw[<-Y,<-Qe 57 t]
 ·grind
theorem znz{sg0:Nat}{t:uAU}{d O:Nat}{J:Bool}{s1 m1:uAU}(H:s1=[]\/s1=[43]\/s1=[45])(B:m1=[]\/m1=[36])(I:m1=[36]->cnt [36] t=0)
  (h:who (sg0+s1.length) t=some (d,O,J)):EdG sg0 (s1++(m1++t)) d O J:=by
 unfold who at h;have key:∀(c:UInt8)(dg0:Nat)(j:Nat),0<cnt [c] t->(c=90\/c=42\/(2<=cnt [c] t/\(c=36\/c=43\/c=45)))->dg0=(if 0<cnt [c] t/\(c=36\/c=43\/c=45)then cnt [c] t-1 else cnt [c] t)->
   j=sg0+s1.length+(if 0<cnt [c] t/\(c=43\/c=45)then 1 else 0)->nin j dg0 [c] (t.drop (cnt [c] t))=some (d,O,J)->EdG sg0 (s1++(m1++t)) d O J:=by
  intro c dg0 j hk S hd Z Y;rw[Qe c t];subst Z;exact zoz H B (.inr S) (.inr ⟨hk,rfl⟩) (fun U _ e=>by subst e;have:=I U;omega) hd Y
 split at h
 ·grind
 ·split at h
  ·grind
  ·split at h
   ·grind
   ·split at h
    ·grind
    ·split at h
     ·grind
     ·have:=zoz (c:=0) (k:=0) (sg0:=sg0) H B (.inl rfl) (.inl ⟨rfl,rfl⟩) (fun _ h=>oM) (dg0:=0) (by rw[if_neg oM]) (by rw[if_neg oM];exact h);exact this
theorem zoC{sg0:Nat}{t:uAU}{d I:Nat}{B:Bool}{s1:uAU}(j:s1=[]\/s1=[43]\/s1=[45])(h:mon (sg0+s1.length) t=some (d,I,B)):EdG sg0 (s1++t) d I B:=by
 unfold mon at h;split at h
 ·rename_i hk;have e:=Qe 36 t;rw[hk]at e;have J:cnt [36] (t.drop 1)=0:=by
   have H:cnt [36] t=cnt [36] (List.replicate 1 36++t.drop 1):=by rw[<-e]
   rw[hk]at H;rw[show(List.replicate 1 (36:UInt8)++t.drop 1)=36::t.drop 1 from rfl,yf,if_pos (by rfl)]at H;omega
  have:=znz (sg0:=sg0) j (.inr rfl) (fun _=>J) h;rw[e];exact this
 ·have:=znz (sg0:=sg0) (m1:=[]) j (.inl rfl) (fun h=>by cases h) h;exact this
theorem zn2{sg0:Nat}{t:uAU}{d B:Nat}{j:Bool}(h:sgn sg0 t=some (d,B,j)):EdG sg0 t d B j:=by
 unfold sgn at h;have one:∀c:UInt8,(c=43\/c=45)->cnt [c] t=1->mon (sg0+1) (t.drop 1)=some (d,B,j)->EdG sg0 t d B j:=fun c hc hk H=>by have e:=Qe c t;rw[hk]at e;have:=zoC (sg0:=sg0) (s1:=[c]) (by rcases hc with rfl|rfl;exact .inr (.inl rfl);exact .inr (.inr rfl)) H;rw[e];exact this
 split at h
 ·grind
 ·split at h
  ·grind
  ·exact zoC (s1:=[]) (.inl rfl) h
def jK(p:uAU):uAU:=if tail2 p=[67,82]\/tail2 p=[68,66]then tail2 p else[]
def edBody(p:uAU):uAU:=if tail2 p=[67,82]\/tail2 p=[68,66]then p.take (p.length-2)else p
theorem zvV(p:uAU):p=edBody p++jK p:=by
 unfold edBody jK tail2;split
 ·simp_all
 grind
theorem zpl{p:uAU}{d B:Nat}{j:Bool}(h:edS p=some (d,B,j)):EdG (if jK p=[]then 0 else 1) (noIns (edBody p)) d B j:=by
 unfold edS at h;split at h
 ·cases h
 ·unfold zvC at h;unfold jK edBody;split at h
  ·rename_i ht;rw[if_pos ht,if_pos ht,if_neg (by rcases ht with e|e<;>rw[e]<;>simp)];exact zn2 h
  ·rename_i ht;rw[if_neg ht,if_neg ht,if_pos rfl];exact zn2 h
def flo(b:uAU):UInt8:=if 1<b.count 45 then 45 else if 1<b.count 43 then 43 else if 1<b.count 36 then 36 else 0
def zq7(s:Shape):picture:=picture.mk (edBody s.uD) (jK s.uD) ((flo (edBody s.uD)).toNat:Int)
theorem zm9(c:UInt8)(l:uAU):Lib.countByte l c=l.count c:=rfl
theorem zyO{p:uAU}(hp:p.length<=1000000)(a b:UInt8):qC p [a,b]=some (if tail2 p=[a,b]then p.take (p.length-2)else p,decide (tail2 p=[a,b])):=by unfold qC Lib.trimSuffix;rw[zh5,decide_eq_true oM,za];by_cases h:tail2 p=[a,b]<;>simp[h]
theorem zvF{N:Nat}(Y:1000<N)(j x:picture)(_:x.body.length<=1000):Zq N N 3 0 j x [36,43,45]=some (picture.mk x.body x.tail (if 1<x.body.count 45 then 45 else if 1<x.body.count 43 then 43 else if 1<x.body.count 36 then 36 else x.float)):=by
 obtain⟨M,rfl⟩:∃M,N=M+4:=⟨N-4,oM⟩
 have step:∀(n:Nat)(i:Nat)(y:picture)(c:UInt8),i<3->([36,43,45]:uAU).getD i 0=c->y.body=x.body->Zq (M+4) (n+1) 3 (i:Int) j y [36,43,45]=
   Zq (M+4) n 3 ((i+1:Nat):Int) j (if 1<x.body.count c then picture.mk y.body y.tail (c.toNat:Int)else y) [36,43,45]:=by
  intro n i y c hi hc J;show ziq (M+4) (Zq (M+4) n) 3 _ j y _=_;unfold ziq;have H:inIx (i:Int) ([36,43,45]:uAU).length=true:=jB hi;have I:=List.count_le_length (a:=c) (l:=x.body);rw[zb,if_pos oM,H,za,za,zP,hc,yG,List.map_singleton,yw];show chk (true&&true) (bnd (ZO y.body [c]) fun U=>_)=_;rw[show ZO y.body [c]=some ((x.body.count c:Nat):Int)by show some ((Lib.countByte y.body c:Nat):Int)=_;rw[J,zm9]];simp only[nY,za,zc];rw[zb,zh oM oM,za,za,show((i:Int)+1)=((i+1:Nat):Int)by omega];by_cases h:1<x.body.count c
  ·rw[if_pos oM,if_pos h]
  ·rw[if_neg oM,if_neg h]
 have B:∀(n i:Nat)(v:Int)(c:UInt8),i<3->([36,43,45]:uAU).getD i 0=c->Zq (M+4) (n+1) 3 (i:Int) j (picture.mk x.body x.tail v) [36,43,45]=
   Zq (M+4) n 3 ((i+1:Nat):Int) j (picture.mk x.body x.tail (if 1<x.body.count c then(c.toNat:Int)else v)) [36,43,45]:=fun n i v c hi hc=>by
  rw[step n i (picture.mk x.body x.tail v) c hi hc rfl];by_cases h:1<x.body.count c<;>simp[h]
 have S:Zq (M+4) (M+4) 3 0 j x [36,43,45]=Zq (M+4) (M+3+1) 3 ((0:Nat):Int) j (picture.mk x.body x.tail x.float) [36,43,45]:=rfl;have O:∀z,Zq (M+4) (M+1) 3 ((2+1:Nat):Int) j z [36,43,45]=some z:=fun z=>rfl
 rw[S,B (M+3) 0 _ 36 dE rfl,show M+3=M+2+1 from rfl,B (M+2) 1 _ 43 dE rfl,show M+2=M+1+1 from rfl,B (M+1) 2 _ 45 dE rfl,O];rfl
theorem zD2{N:Nat}(hN:1000<N){s:Shape}(hp:s.uD.length<=400):eOf N s=some (zq7 s):=by
 obtain⟨M,rfl⟩:∃M,N=M+4:=⟨N-4,oM⟩
 have U:(edBody s.uD).length<=400:=by
  unfold edBody;split
  ·rw[mI];omega
  ·exact hp
 have fin:∀x:picture,x.body=edBody s.uD->x.tail=jK s.uD->x.float=0->∀B,Zq (M+4) (M+4) ((([36,43,45].map toByte)).length:Int) 0 B x ([36,43,45].map toByte)=some (zq7 s):=by intro x J Z Y B;have e:=zvF (N:=M+4) hN B x (by rw[J];omega);rw[show(([36,43,45]:List Int).map toByte)=([36,43,45]:uAU)from rfl];rw[show((([36,43,45]:uAU)).length:Int)=3 from rfl,e,J,Z,Y];unfold zq7 flo;congr 2;by_cases S:1<(edBody s.uD).count 45<;>by_cases O:1<(edBody s.uD).count 43<;>by_cases k3:1<(edBody s.uD).count 36<;>simp[S,O,k3]
 unfold eOf;show VT (M+4) (VU (M+4) (M+3)) 2 0 s _ _ _=_;unfold VT;have I:inIx 0 (([[67,82],[68,66]]:List uAU)).length=true:=dE
 have H:inIx 1 (([[67,82],[68,66]]:List uAU)).length=true:=dE
 rw[zb,if_pos dE,I,za,za,show atS ([[67,82],[68,66]]:List uAU) 0=[67,82]from rfl,zyO oM,zc];have two:∀j:picture,VU (M+4) (M+3) 2 1 s (picture.mk [] [] 0) j ([[67,82],[68,66]]:List uAU)=
   Zq (M+4) (M+4) ((([36,43,45].map toByte)).length:Int) 0 (picture.mk [] [] 0) (if tail2 s.uD=[68,66]then picture.mk (s.uD.take (s.uD.length-2)) [68,66] j.float else j) ([36,43,45].map toByte):=by
  intro j;show VT (M+4) (VU (M+4) (M+2)) 2 1 s _ _ _=_;unfold VT;rw[zb,if_pos dE,H,za,za,show atS ([[67,82],[68,66]]:List uAU) 1=[68,66]from rfl,zyO oM,zc];by_cases h:tail2 s.uD=[68,66]
  ·rw[if_pos h,if_pos h,decide_eq_true h];rfl
  ·rw[if_neg h,if_neg h,decide_eq_false h];rfl
 by_cases h:tail2 s.uD=[67,82]
 ·have h':¬tail2 s.uD=[68,66]:=by rw[h];decide
  rw[if_pos h,decide_eq_true h];dsimp only;rw[cond_true,zh oM oM,za];show VU (M+4) (M+3) 2 1 s _ _ _=_;rw[two,if_neg h'];exact fin _ (by unfold edBody;rw[if_pos (.inl h)]) (by unfold jK;rw[if_pos (.inl h),h]) rfl _
 ·rw[if_neg h,decide_eq_false h];dsimp only;rw[cond_false,zh oM oM,za];show VU (M+4) (M+3) 2 1 s _ _ _=_;rw[two];by_cases h':tail2 s.uD=[68,66]
  ·rw[if_pos h'];exact fin _ (by unfold edBody;rw[if_pos (.inr h')]) (by unfold jK;rw[if_pos (.inr h'),h']) rfl _
  ·rw[if_neg h'];exact fin _ (by unfold edBody;rw[if_neg (by rintro(k|k);exact h k;exact h' k)]) (by unfold jK;rw[if_neg (by rintro(k|k);exact h k;exact h' k)]) rfl _
def dig(fl c:UInt8):Bool:=decide (c=57)||(decide (c=90)||(decide (c=42)||decide (c=fl)))
theorem zd2(N:Nat)(b t:uAU)(fl c:UInt8):zd3 N (picture.mk b t (fl.toNat:Int)) (c.toNat:Int)=some (dig fl c):=by
 unfold zd3 dig;have H:((c.toNat:Int)=57)↔c=57:=Ju c 57 dE;have I:((c.toNat:Int)=90)↔c=90:=Ju c 90 dE;have B:((c.toNat:Int)=42)↔c=42:=Ju c 42 dE;have j:((c.toNat:Int)=(fl.toNat:Int))↔c=fl:=by rw[<-UInt8.toNat_inj];omega
 simp only[decide_eq_decide.2 H,decide_eq_decide.2 I,decide_eq_decide.2 B,decide_eq_decide.2 j];cases decide (c=57)<;>cases decide (c=90)<;>cases decide (c=42)<;>rfl
theorem zyA{N:Nat}(U:1000<N){b t:uAU}(fl:UInt8)(set:uAU)(hb:b.length<=400):zkE N (picture.mk b t (fl.toNat:Int)) set=some (b.all fun c=>!dig fl c||set.contains c):=by
 have loop:∀(n i:Nat),i<=b.length->b.length-i<n->VS N n set (b.length:Int) (i:Int) (picture.mk b t (fl.toNat:Int))=some ((b.drop i).all fun c=>!dig fl c||set.contains c):=by
  intro n;induction n with
  |zero=>intro i _ h;omega
  |succ n J=>
   intro i hi S;show zbz N (VS N n) set _ _ _=_;unfold zbz;rw[zb];by_cases h:i<b.length
   ·have O:b.drop i=b.getD i 0::b.drop (i+1):=jq h;have B:=J (i+1) oM oM;have j:∀c:UInt8,yo set (c.toNat:Int)=some (Lib.indexByte set c):=fun c=>by unfold yo;rw[za2]
    rw[if_pos oM];dsimp only;rw[jB h,za,zP,zd2,zc,O,List.all_cons,zh oM oM,show((i:Int)+1)=((i+1:Nat):Int)by omega];simp only[za];rw[B];cases hg:dig fl (b.getD i 0)with
    |false=>simp
    |true=>
     rw[cond_true,j,zc,zb];have H:=jN (b.getD i 0) set;by_cases hc:set.contains (b.getD i 0)=true
     ·rw[if_neg (by have:=H.2 hc;omega),hc];simp
     ·rw[if_pos (by
       by_cases I:Lib.indexByte set (b.getD i 0)<0
       ·exact I
       ·exact (hc (H.1 oM)).elim),(Bool.not_eq_true _).mp hc]
      rfl
   ·have:i=b.length:=oM
    subst this;rw[if_neg oM,List.drop_length];rfl
 exact loop N 0 oM oM
structure WS where
 ds:uAU
 fst:Bool
 st:Nat
 out:uAU
 lst:Int
def jC(b:uAU):UInt8:=if b.contains 42=true then 42 else 32
def yU(j c:UInt8)(r:Bool)(w:WS):WS:=if r=true then⟨w.ds,w.fst,w.st,w.out++[j],(w.out.length:Int)⟩else⟨w.ds,w.fst,w.st,w.out++[c],w.lst⟩
def zgW(j fl c:UInt8)(w:WS):Option WS:=
 if c=fl/\w.fst=false then some (yU j c true ⟨w.ds,true,if w.st=0/\c≠57 then 1 else w.st,w.out,w.lst⟩)
 else match w.ds with
  |[]=>none
  |d::r=>some (yU j d (decide ((if c=57\/d≠48 then 2 else if w.st=0/\c≠57 then 1 else w.st)=1)) ⟨r,w.fst,if c=57\/d≠48 then 2 else if w.st=0/\c≠57 then 1 else w.st,w.out,w.lst⟩)
def zau(j fl:UInt8)(neg:Bool)(c:UInt8)(w:WS):Option WS:=if dig fl c=true then zgW j fl c w else if c=86 then some ⟨w.ds,w.fst,2,w.out,w.lst⟩else if c=46 then some (yU j 46 false ⟨w.ds,w.fst,2,w.out,w.lst⟩)else some (yU j (shw c neg) (decide (w.st=1)) w)
def zbR(j fl:UInt8)(neg:Bool):uAU->WS->Option WS
 |[],w=>some w
 |c::b,w=>match zau j fl neg c w with
  |some w'=>zbR j fl neg b w'
  |none=>none
theorem zqh(N:Nat)(b t:uAU)(f:Int)(j:uAU)(ng fs:Bool)(st l:Int)(out:uAU):Wv N b t f j ng fs st l out=some (((jC b).toNat:Int),b,t,f,j,ng,fs,st,l,out):=by
 unfold Wv jC;rw[show Q0 b [42]=some (decide (0<=Lib.indexByte b 42))from rfl,zc,decide_eq_decide.2 (jN 42 b)];by_cases h:b.contains 42=true
 ·rw[decide_eq_true h,if_pos h];rfl
 ·rw[decide_eq_false h,if_neg h];rfl
theorem znE(N:Nat)(b t:uAU)(f:Int)(j:uAU)(ng fs:Bool)(st l:Int):QG N b t f j ng fs st l=some (((jC b).toNat:Int),b,t,f,j,ng,fs,st,l):=by
 unfold QG jC;rw[show Q0 b [42]=some (decide (0<=Lib.indexByte b 42))from rfl,zc,decide_eq_decide.2 (jN 42 b)];by_cases h:b.contains 42=true
 ·rw[decide_eq_true h,if_pos h];rfl
 ·rw[decide_eq_false h,if_neg h];rfl
theorem zfw(N:Nat)(b t:uAU)(f:Int)(ng:Bool)(c:UInt8)(r:Bool)(w:WS)(ho:w.out.length<=1000):
  znB N (c.toNat:Int) r b t f w.ds ng w.fst (w.st:Int) w.lst w.out=some (b,t,f,(yU (jC b) c r w).ds,ng,(yU (jC b) c r w).fst,((yU (jC b) c r w).st:Int),(yU (jC b) c r w).lst,(yU (jC b) c r w).out):=by
 have j:∀(u:UInt8)(l:Int),zbW N (u.toNat:Int) b t f w.ds ng w.fst (w.st:Int) l w.out=some (b,t,f,w.ds,ng,w.fst,(w.st:Int),l,w.out++[u]):=fun u l=>by unfold zbW;rw[yG,List.map_singleton,yw,Zn (by simp;omega)];rfl
 unfold znB yU;cases r
 ·rw[cond_false,j];simp
 ·rw[cond_true,zqh,zc];simp only[];rw[j];simp
theorem zbX(N:Nat)(b t:uAU)(f:Int)(ng:Bool)(c:UInt8)(r:Bool)(w:WS)(ho:w.out=[]):
  zeq N (c.toNat:Int) r b t f w.ds ng w.fst (w.st:Int) w.lst=some (b,t,f,(yU (jC b) c r w).ds,ng,(yU (jC b) c r w).fst,((yU (jC b) c r w).st:Int),(yU (jC b) c r w).lst,(yU (jC b) c r w).out):=by
 have j:∀(u:UInt8)(l:Int),K2 N (u.toNat:Int) b t f w.ds ng w.fst (w.st:Int) l=some (b,t,f,w.ds,ng,w.fst,(w.st:Int),l,[u]):=fun u l=>by unfold K2;rw[yG,List.map_singleton,yw,Zn sI];rfl
 unfold zeq yU;cases r
 ·rw[cond_false,j];simp[ho]
 ·rw[cond_true,znE,zc];simp only[];rw[j];simp[ho]
section
def wT(b t:uAU)(f:Int)(ng:Bool)(w:WS):uAU×uAU×Int×uAU×Bool×Bool×Int×Int×uAU:=(b,t,f,w.ds,ng,w.fst,(w.st:Int),w.lst,w.out)
theorem zi5(N:Nat)(b t:uAU)(f:Int)(ng:Bool)(d:UInt8)(w:WS)(ho:w.out.length<=1000):
  qv N (d.toNat:Int) b t f w.ds ng w.fst (w.st:Int) w.lst w.out=some (wT b t f ng (yU (jC b) d (decide (w.st=1)) w)):=by
 unfold qv;rw[show decide ((w.st:Int)=1)=decide (w.st=1)from decide_eq_decide.2 oM,zfw N b t f ng d _ w ho,zc];rfl
theorem zi6(N:Nat)(b t:uAU)(f:Int)(ng:Bool)(c:UInt8)(j:Bool)(w:WS)(ho:w.out.length<=1000)(_hd:w.ds.length<=1000):
  J8 N (c.toNat:Int) j b t f w.ds ng w.fst (w.st:Int) w.lst w.out=zhB (wT b t f ng) (if j=true then some (yU (jC b) c true ⟨w.ds,true,w.st,w.out,w.lst⟩)else match w.ds with
   |[]=>none
   |d::r=>some (yU (jC b) d (decide ((if c=57\/d≠48 then 2 else w.st)=1)) ⟨r,w.fst,if c=57\/d≠48 then 2 else w.st,w.out,w.lst⟩)):=by
 unfold J8;cases j
 ·rw[cond_false,if_neg dE];cases hds:w.ds with
  |nil=>rfl
  |cons d r=>
   rw[hds]at _hd;have B:inIx 0 (d::r).length=true:=zw.2 ⟨oM,by simp only[mM];omega⟩;have I:zk 1 ((d::r).length:Int) (d::r).length=true:=by
    unfold zk
    grind
   have H:byteAt (d::r) 0=(d.toNat:Int):=rfl;have S:zO (d::r) 1=r:=rfl;have J:((c.toNat:Int)=57)↔c=57:=Ju c 57 dE;have O:((d.toNat:Int)=48)↔d=48:=Ju d 48 dE;rw[B,za,I,za,H,S,zb,zj];show _=some (wT b t f ng (yU (jC b) d (decide ((if c=57\/d≠48 then 2 else w.st)=1)) ⟨r,w.fst,if c=57\/d≠48 then 2 else w.st,w.out,w.lst⟩));have U:∀st:Nat,qv N (d.toNat:Int) b t f r ng w.fst (st:Int) w.lst w.out=some (wT b t f ng (yU (jC b) d (decide (st=1)) ⟨r,w.fst,st,w.out,w.lst⟩)):=fun st=>zi5 N b t f ng d ⟨r,w.fst,st,w.out,w.lst⟩ ho
   by_cases hc:c=57
   ·grind
   ·grind
 ·rw[cond_true,if_pos rfl];have:=zfw N b t f ng c true ⟨w.ds,true,w.st,w.out,w.lst⟩ ho;rw[this,zc];rfl
theorem zqg(N:Nat)(b t:uAU)(fl:UInt8)(ng:Bool)(c:UInt8)(w:WS)(ho:w.out.length<=1000)(J:w.ds.length<=1000):
  zfx N (c.toNat:Int) b t (fl.toNat:Int) w.ds ng w.fst (w.st:Int) w.lst w.out=zhB (wT b t (fl.toNat:Int) ng) (zgW (jC b) fl c w):=by
 have I:((c.toNat:Int)=57)↔c=57:=Ju c 57 dE;have H:((c.toNat:Int)=(fl.toNat:Int))↔c=fl:=by rw[<-UInt8.toNat_inj];omega
 have U:∀st:Nat,st=(if w.st=0/\c≠57 then 1 else w.st)->ZD N (c.toNat:Int) b t (fl.toNat:Int) w.ds ng w.fst (st:Int) w.lst w.out=zhB (wT b t (fl.toNat:Int) ng) (zgW (jC b) fl c w):=by
  intro st B;unfold ZD zgW;rw[zb,<-B];have S:=fun j=>zi6 N b t (fl.toNat:Int) ng c j ⟨w.ds,w.fst,st,w.out,w.lst⟩ ho J
  grind
 unfold zfx;rw[zb,zj];by_cases O:w.st=0
 ·grind
 ·grind
theorem zg0(N:Nat)(b t:uAU)(f:Int)(ng:Bool)(d:UInt8)(w:WS)(ho:w.out=[]):
  yF N (d.toNat:Int) b t f w.ds ng w.fst (w.st:Int) w.lst=some (wT b t f ng (yU (jC b) d (decide (w.st=1)) w)):=by
 unfold yF;rw[show decide ((w.st:Int)=1)=decide (w.st=1)from decide_eq_decide.2 oM,zbX N b t f ng d _ w ho,zc];rfl
theorem zg1(N:Nat)(b t:uAU)(f:Int)(ng:Bool)(c:UInt8)(j:Bool)(w:WS)(ho:w.out=[])(_hd:w.ds.length<=1000):
  Z6 N (c.toNat:Int) j b t f w.ds ng w.fst (w.st:Int) w.lst=zhB (wT b t f ng) (if j=true then some (yU (jC b) c true ⟨w.ds,true,w.st,w.out,w.lst⟩)else match w.ds with
   |[]=>none
   |d::r=>some (yU (jC b) d (decide ((if c=57\/d≠48 then 2 else w.st)=1)) ⟨r,w.fst,if c=57\/d≠48 then 2 else w.st,w.out,w.lst⟩)):=by
 unfold Z6;cases j
 ·rw[cond_false,if_neg dE];cases hds:w.ds with
  |nil=>rfl
  |cons d r=>
   rw[hds]at _hd;have B:inIx 0 (d::r).length=true:=zw.2 ⟨oM,by simp only[mM];omega⟩;have I:zk 1 ((d::r).length:Int) (d::r).length=true:=by
    unfold zk
    grind
   have H:byteAt (d::r) 0=(d.toNat:Int):=rfl;have S:zO (d::r) 1=r:=rfl;have J:((c.toNat:Int)=57)↔c=57:=Ju c 57 dE;have O:((d.toNat:Int)=48)↔d=48:=Ju d 48 dE;rw[B,za,I,za,H,S,zb,zj];show _=some (wT b t f ng (yU (jC b) d (decide ((if c=57\/d≠48 then 2 else w.st)=1)) ⟨r,w.fst,if c=57\/d≠48 then 2 else w.st,w.out,w.lst⟩));have U:∀st:Nat,yF N (d.toNat:Int) b t f r ng w.fst (st:Int) w.lst=some (wT b t f ng (yU (jC b) d (decide (st=1)) ⟨r,w.fst,st,w.out,w.lst⟩)):=fun st=>zg0 N b t f ng d ⟨r,w.fst,st,w.out,w.lst⟩ ho
   by_cases hc:c=57
   ·grind
   ·grind
 ·rw[cond_true,if_pos rfl];have:=zbX N b t f ng c true ⟨w.ds,true,w.st,w.out,w.lst⟩ ho;rw[this,zc];rfl
theorem znD(N:Nat)(b t:uAU)(fl:UInt8)(ng:Bool)(c:UInt8)(w:WS)(ho:w.out=[])(J:w.ds.length<=1000):
  zbY N (c.toNat:Int) b t (fl.toNat:Int) w.ds ng w.fst (w.st:Int) w.lst=zhB (wT b t (fl.toNat:Int) ng) (zgW (jC b) fl c w):=by
 have I:((c.toNat:Int)=57)↔c=57:=Ju c 57 dE;have H:((c.toNat:Int)=(fl.toNat:Int))↔c=fl:=by rw[<-UInt8.toNat_inj];omega
 have U:∀st:Nat,st=(if w.st=0/\c≠57 then 1 else w.st)->qH N (c.toNat:Int) b t (fl.toNat:Int) w.ds ng w.fst (st:Int) w.lst=zhB (wT b t (fl.toNat:Int) ng) (zgW (jC b) fl c w):=by
  intro st B;unfold qH zgW;rw[zb,<-B];have S:=fun j=>zg1 N b t (fl.toNat:Int) ng c j ⟨w.ds,w.fst,st,w.out,w.lst⟩ ho J
  grind
 unfold zbY;rw[zb,zj];by_cases O:w.st=0
 ·grind
 ·grind
theorem ql(j c:UInt8)(r:Bool)(w:WS):(yU j c r w).out.length=w.out.length+1/\(yU j c r w).ds=w.ds:=by unfold yU;split<;>simp
theorem znv{j fl c:UInt8}{w w':WS}(h:zgW j fl c w=some w'):w'.out.length=w.out.length+1/\w'.ds.length<=w.ds.length:=by
 unfold zgW at h;split at h
 ·cases h;have:=ql j c true ⟨w.ds,true,if w.st=0/\c≠57 then 1 else w.st,w.out,w.lst⟩;rw[this.2];exact⟨this.1,mH _⟩
 ·split at h
  ·cases h
  ·rename_i d r B;cases h;have:=ql j d (decide ((if c=57\/d≠48 then 2 else if w.st=0/\c≠57 then 1 else w.st)=1)) ⟨r,w.fst,if c=57\/d≠48 then 2 else if w.st=0/\c≠57 then 1 else w.st,w.out,w.lst⟩
   grind
theorem zjF{j fl c:UInt8}{neg:Bool}{w w':WS}(h:zau j fl neg c w=some w'):w'.out.length<=w.out.length+1/\w.out.length<=w'.out.length/\w'.ds.length<=w.ds.length/\(w'.out=[]->c=86/\w.out=[]):=by
 unfold zau at h;split at h
 ·have:=znv h
  grind
 ·split at h
  ·grind
  ·split at h
   ·cases h;have:=ql j 46 false ⟨w.ds,w.fst,2,w.out,w.lst⟩
    grind
   ·cases h;have:=ql j (shw c neg) (decide (w.st=1)) w
    grind
def zkY(fl:UInt8)(neg:Bool)(t:uAU)(w:WS):uAU:=(if fl≠0/\0<=w.lst then w.out.set w.lst.toNat (shw fl neg)else w.out)++(if neg=true then t else List.replicate t.length 32)
theorem K0(N:Nat)(b t:uAU)(f:Int)(neg:Bool)(w:WS)(_:w.out.length<=1000)(ht:t.length<=10)(out:uAU)(ho:out.length<=1000):
  ∃r,wWrite_k1s1 N b t f w.ds neg w.fst (w.st:Int) w.lst out=some r/\r.1=out++(if neg=true then t else List.replicate t.length 32):=by
 unfold wWrite_k1s1;have B:∀u:uAU,u.length<=10->∃r,qG N u b t f w.ds neg w.fst (w.st:Int) w.lst out=some r/\r.1=out++u:=fun u j=>by
  unfold qG;rw[Zn (by simp;omega),za]
  grind
 cases neg
 ·rw[uAS,cond_true,Vx 32 oM,zc,if_neg dE];simp_all
 ·grind
theorem zgX(N:Nat)(b t:uAU)(fl:UInt8)(neg:Bool)(w:WS)(j:w.out.length<=1000)(ht:t.length<=10)(H:w.lst<(w.out.length:Int)):
  ∃r,Z5 N b t (fl.toNat:Int) w.ds neg w.fst (w.st:Int) w.lst w.out=some r/\r.1=zkY fl neg t w:=by
 have J:∀q:Bool,q=decide (fl≠0/\0<=w.lst)->∃r,qF N q b t (fl.toNat:Int) w.ds neg w.fst (w.st:Int) w.lst w.out=some r/\r.1=zkY fl neg t w:=by
  intro q B;unfold qF zkY;by_cases h:fl≠0/\0<=w.lst
  ·rw[B,decide_eq_true h,cond_true,Kl,zc,if_pos h];have hi:inIx w.lst w.out.length=true:=zw.2 ⟨h.2,H⟩;rw[hi,yG,za,yw];exact K0 N b t _ neg w j ht _ (by simpa using j)
  ·rw[B,decide_eq_false h,cond_false,if_neg h];exact K0 N b t _ neg w j ht _ j
 unfold Z5;rw[zj];have I:((fl.toNat:Int)=0)↔fl=0:=Ju fl 0 dE;by_cases h:fl=0
 ·grind
 ·grind
theorem zbU{j c:UInt8}{r:Bool}{w:WS}(h:w.lst<(w.out.length:Int)):(yU j c r w).lst<((yU j c r w).out.length:Int):=by unfold yU;split<;>simp<;>omega
theorem zjG{B fl c:UInt8}{neg:Bool}{w w':WS}(h:zau B fl neg c w=some w')(j:w.lst<(w.out.length:Int)):w'.lst<(w'.out.length:Int):=by
 unfold zau at h;split at h
 ·unfold zgW at h;split at h
  ·cases h;exact zbU j
  ·split at h
   ·cases h
   ·cases h;exact zbU j
 ·split at h
  ·cases h;exact j
  ·split at h
   ·cases h;exact zbU j
   ·cases h;exact zbU j
section
variable {N : Nat} {b t : uAU} {fl : UInt8} {neg : Bool} (hb : b.length <= 400) (ht : t.length <= 10)
include hb ht
theorem zgY:∀(n i:Nat)(w:WS),i<=b.length->b.length-i<n->w.out.length<=i->w.ds.length<=1000->w.lst<(w.out.length:Int)->∀w',zbR (jC b) fl neg (b.drop i) w=some w'->
  ∃r,yV N n (.inr ((b.length:Int),(i:Int),b,t,(fl.toNat:Int),w.ds,neg,w.fst,(w.st:Int),w.lst,w.out))=some r/\r.1=zkY fl neg t w'
 |0,i,w,_,h,_,_,_,_,_=>oM
 |n+1,i,w,hi,hn,ho,hd,hl,w',hr=>by
  show∃r,XK N (yV N n) _ _ b t _ w.ds neg w.fst _ w.lst w.out=some r/\_;unfold XK;rw[zb];by_cases h:i<b.length
  ·rw[if_pos oM,jB h,za,zP,zd2,zc];rw[jq h]at hr;obtain⟨c,hc⟩:∃c,b.getD i 0=c:=⟨_,rfl⟩
   rw[hc]at hr⊢;unfold zbR at hr;split at hr
   ·rename_i U j;have Y:=zjF j;have O:=zjG j hl;have S:=zgY n (i+1) U oM oM oM oM O w' hr;have hk:inKb .i64 ((i:Int)+1)=true:=zh oM oM;have J:((c.toNat:Int)=86)↔c=86:=Ju c 86 dE;have I:((c.toNat:Int)=46)↔c=46:=Ju c 46 dE;rw[show((i:Int)+1)=((i+1:Nat):Int)by omega]at hk⊢;unfold zau at j;cases hg:dig fl c with
    |true=>rw[hg,if_pos rfl]at j;rw[cond_true,zqg N b t fl neg c w oM hd,j];show∃r,bnd (some (wT b t (fl.toNat:Int) neg U)) _=some r/\_;rw[zc,hk,za];exact S
    |false=>
     rw[hg,if_neg dE]at j;rw[cond_false,zb,zb];by_cases H:c=86
     ·rw[if_pos H]at j;cases j;rw[if_pos (J.2 H),hk,za];exact S
     ·rw[if_neg H]at j;rw[if_neg (fun e=>H (J.1 e))];by_cases B:c=46
      ·rw[if_pos B]at j;cases j;rw[if_pos (I.2 B),B];have:=zfw N b t (fl.toNat:Int) neg 46 false ⟨w.ds,w.fst,2,w.out,w.lst⟩ (by show w.out.length<=1000;omega);rw[show znB N ((46:UInt8).toNat:Int) false b t (fl.toNat:Int) w.ds neg w.fst 2 w.lst w.out=_ from this,zc,hk,za];exact S
      ·rw[if_neg B]at j;cases j;rw[if_neg (fun e=>B (I.1 e)),Kl,zc,show decide ((w.st:Int)=1)=decide (w.st=1)from decide_eq_decide.2 oM,zfw N b t (fl.toNat:Int) neg _ _ w oM,zc,hk,za];exact S
   ·cases hr
  ·have e:i=b.length:=oM
   subst e;rw[List.drop_length]at hr;cases hr;rw[if_neg oM];exact zgX N b t fl neg w oM ht hl
theorem zgZ:∀(n i:Nat)(w:WS),i<=b.length->b.length-i<n->w.out=[]->w.ds.length<=1000->w.lst<0->∀w',zbR (jC b) fl neg (b.drop i) w=some w'->w'.out≠[]->
  ∃r,yV N n (.inl ((b.length:Int),(i:Int),b,t,(fl.toNat:Int),w.ds,neg,w.fst,(w.st:Int),w.lst))=some r/\r.1=zkY fl neg t w'
 |0,i,w,_,h,_,_,_,_,_,_=>oM
 |n+1,i,w,hi,hn,ho,hd,hl,w',hr,hne=>by
  show∃r,XL N (yV N n) _ _ b t _ w.ds neg w.fst _ w.lst=some r/\_;unfold XL;rw[zb];by_cases h:i<b.length
  ·rw[if_pos oM,jB h,za,zP,zd2,zc];rw[jq h]at hr;obtain⟨c,hc⟩:∃c,b.getD i 0=c:=⟨_,rfl⟩
   rw[hc]at hr⊢;unfold zbR at hr;split at hr
   ·rename_i Y j;have I:=zjF j;rw[ho]at I;have S:=zjG j (by rw[ho];exact hl);have U:=zgY (N:=N) (fl:=fl) (neg:=neg) hb ht n (i+1) Y oM oM (by simp at I;omega) oM S w' hr;have hk:inKb .i64 ((i:Int)+1)=true:=zh oM oM;have O:((c.toNat:Int)=86)↔c=86:=Ju c 86 dE;have J:((c.toNat:Int)=46)↔c=46:=Ju c 46 dE;rw[show((i:Int)+1)=((i+1:Nat):Int)by omega]at hk⊢;unfold zau at j;cases hg:dig fl c with
    |true=>rw[hg,if_pos rfl]at j;rw[cond_true,znD N b t fl neg c w ho hd,j];show∃r,bnd (some (wT b t (fl.toNat:Int) neg Y)) _=some r/\_;rw[zc,hk,za];exact U
    |false=>
     rw[hg,if_neg dE]at j;rw[cond_false,zb,zb];by_cases H:c=86
     ·rw[if_pos H]at j;cases j;rw[if_pos (O.2 H),hk,za];exact zgZ n (i+1) ⟨w.ds,w.fst,2,w.out,w.lst⟩ oM oM ho hd hl w' hr hne
     ·rw[if_neg H]at j;rw[if_neg (fun e=>H (O.1 e))];by_cases B:c=46
      ·rw[if_pos B]at j;cases j;rw[if_pos (J.2 B),B];have:=zbX N b t (fl.toNat:Int) neg 46 false ⟨w.ds,w.fst,2,w.out,w.lst⟩ ho;rw[show zeq N ((46:UInt8).toNat:Int) false b t (fl.toNat:Int) w.ds neg w.fst 2 w.lst=_ from this,zc,hk,za];exact U
      ·rw[if_neg B]at j;cases j;rw[if_neg (fun e=>B (J.1 e)),Kl,zc,show decide ((w.st:Int)=1)=decide (w.st=1)from decide_eq_decide.2 oM,zbX N b t (fl.toNat:Int) neg _ _ w ho,zc,hk,za];exact U
   ·cases hr
  ·have e:i=b.length:=oM
   subst e;rw[List.drop_length]at hr;cases hr;exact (hne ho).elim
theorem zui(O:1000<N)(j:uAU)(J:j.length<=1000){w':WS}(H:zbR (jC b) fl neg b ⟨j,false,0,[],-1⟩=some w')(B:w'.out≠[])(I:Int):
  ∃r,zdm N b t (fl.toNat:Int) j neg false 0 I=some r/\r.1=zkY fl neg t w':=by
 unfold zdm;exact zgZ (N:=N) hb ht N 0 ⟨j,false,0,[],-1⟩ oM oM rfl J (by show(-1:Int)<0;decide) w' H B
end
end
theorem zeb{set:uAU}:∀{s:uAU},(∀c∈s,set.contains c=true)->cnt set s=s.length
 |[],_=>rfl
 |c::s,h=>by rw[yf,if_pos (h c sI),zeb (fun x j=>h x (by simp[j]))];rfl
theorem zng{set:uAU}:∀{s:uAU},cnt set s=s.length->∀c∈s,set.contains c=true
 |[],_,c,hc=>by cases hc
 |x::s,h,c,hc=>by
  rw[yf]at h;split at h
  ·rename_i j;rcases nB.1 hc with rfl|hc
   ·exact j
   ·exact zng (by simpa using h) c hc
  ·simp at h
theorem zo3{p:uAU}{sh:Shape}(h:Good p sh):chkV sh=0:=by
 have j:=zkr h;have hc:=h.cat;have H:=h.use;have B:qm sh=0:=by
  unfold qm;rw[if_neg oM,if_neg oM,if_neg];rintro⟨J,I|I⟩
  ·have:=h.num J;omega
  ·have:=h.dig;omega
 unfold chkV;rw[if_neg (fun k=>k B),if_neg oM];unfold zfk;rw[h.pic,j];simp only[ne_eq,not_true_eq_false,if_false,h.pic,or_self,decide_false];unfold KM;simp[h.led,h.sep,h.jus,h.bla,h.siz,H]
def sy6(c:UInt8):UInt8:=([88,65,57,66,48,47]:uAU).getD (c.toNat%6) 0
def picT(l:uAU):uAU:=88::l.map sy6
theorem zDa(c:UInt8):([65,88,57,66,48,47]:uAU).contains (sy6 c)=true:=by
 unfold sy6;have h:c.toNat%6<6:=Nat.mod_lt _ dE;generalize c.toNat%6=j at h;rcases j with _|_|_|_|_|_|j
 all_goals first|rfl|omega
theorem zn0{c:UInt8}(h:([65,88,57,66,48,47]:uAU).contains c=true):syms.contains c=true/\c≠86:=by simp only[List.contains_cons,List.contains_nil,Bool.or_false,nO,beq_iff_eq]at h;rcases h with rfl|rfl|rfl|rfl|rfl|rfl<;>decide
theorem zlN(l:uAU):∀c∈picT l,([65,88,57,66,48,47]:uAU).contains c=true:=by
 intro c hc;unfold picT at hc;rcases nB.1 hc with rfl|hc
 ·rfl
 ·obtain⟨a,_,rfl⟩:=uAb.1 hc;exact zDa a
def ziD(l:uAU):Int:=if cnt [65,88,57] (picT l)=(picT l).length then 2 else 3
def shT(l:uAU):Shape:=Shape.mk (ziD l) 0 (picT l) 0 0 false false false false false ((picT l).length:Int)
theorem zvm{l:uAU}(O:l.length<=20):Good (picT l) (shT l):=by
 have J:ziD l=2\/ziD l=3:=by unfold ziD;split<;>simp
 have B:(picT l).count 86=0:=List.count_eq_zero.2 fun hc=>(zn0 (zlN l 86 hc)).2 rfl
 exact {
  par:=by
   have H:¬cnt [65] (picT l)=(picT l).length:=by unfold picT;rw[yf,if_neg dE];simp
   have I:¬(picT l).countP zvg=0:=by unfold picT;rw[List.countP_cons_of_pos (by rfl)];omega
   unfold parS zdq shT ziD;rw[if_neg H,if_neg I];by_cases j:cnt [65,88,57] (picT l)=(picT l).length
   ·rw[if_pos j,if_pos j]
   ·rw[if_neg j,if_neg j,if_pos (zeb (zlN l))]
  ne:=by unfold picT;simp
  len:=by unfold picT;simp;omega
  sym:=fun c hc=>(zn0 (zlN l c hc)).1
  pic:=rfl
  cat:=by show 1<=ziD l/\ziD l<=5;omega
  use:=rfl
  dig:=by show(0:Int)<=18;decide
  num:=fun h=>by have h:ziD l=4:=h;omega
  sca:=by show(0:Int)<=18;decide
  led:=rfl
  sep:=rfl
  jus:=rfl
  bla:=rfl
  siz:=by
   show((picT l).length:Int)=sizeV (shT l);unfold sizeV;rw[if_neg (show¬(shT l).uC=0 from fun e=>by have e:ziD l=0:=e;omega),if_pos (show(shT l).uC≠4 from fun e=>by have e:ziD l=4:=e;omega)];unfold szN;show((picT l).length:Int)=(((picT l).length-(picT l).count 86:Nat):Int)
   rw[B,Nat.sub_zero]}
end Go.Proofs.C06
