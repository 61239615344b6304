/-
  A part of the proof of the laws on moves.
-/
import Derived.Test.YtpghlpmkljkakaaGreatDoorPd
import Derived.Test.YtpghlpmkljkakaaGreatDoorEa
section
set_option maxRecDepth 100000
namespace Go.Proofs.C06
open Go Go.RowKit Go.Vc Go.Am
theorem J1(c:UInt8):∀t:List UInt8,t=List.replicate (cnt [c] t) c++t.drop (cnt [c] t)
 |[]=>rfl
 |x::t=>by
  rw[jN];by_cases h:x=c
  ·subst h;have ih:=J1 x t;rw[if_pos (by simp),List.replicate_succ,List.drop_succ_cons,List.cons_append,←ih]
  ·rw[if_neg (by simpa using h)];rfl
theorem ze7{t:List UInt8}{c:UInt8}(h:t.getD 0 0=c)(hc:c≠0):t=c::t.drop 1:=by
 cases t with
 |nil=>exact (hc (by simpa using h.symm)).elim
 |cons x r=>simp only[List.getD_cons_zero]at h;subst h;rfl
theorem zkW{sg dg sc:Nat}{t:List UInt8}{d c:Nat}{s:Bool}(h:fin sg dg sc t=some (d,c,s)):
  d=dg∧c=sc∧(t=[]∨t=[43]∨t=[45])∧s=decide (0<sg+t.length)∧sg+t.length<2∧0<dg:=by
 unfold fin at h;split at h
 ·rename_i ht;split at h
  ·rename_i hc;cases h;rcases ht with rfl|rfl
   ·exact⟨rfl,rfl,.inr (.inl rfl),by simp,hc.1,hc.2⟩
   ·exact⟨rfl,rfl,.inr (.inr rfl),by simp,hc.1,hc.2⟩
  ·cases h
 ·split at h
  ·rename_i hc;cases h;obtain⟨rfl,h1,h2⟩:=hc;exact⟨rfl,rfl,.inl rfl,by simp,h1,h2⟩
  ·cases h
theorem zs7{sym:List UInt8}{m:Nat}{t:List UInt8}(hs:sym=[]∨∃y,sym=[y]):∃x,t=List.replicate (fr sym m t) x++t.drop (fr sym m t)∧
  (0<fr sym m t→x=57∨(m=0∧((∃y,sym=[y]∧x=y)∨(sym=[]∧(x=90∨x=42))))):=by
 by_cases h1:0<cnt [57] t∨0<m
 ·rw[show fr sym m t=cnt [57] t by unfold fr;rw[if_pos h1]];exact⟨57,J1 57 t,fun _=>.inl rfl⟩
 ·have hm:m=0:=by omega
  rcases hs with rfl|⟨y,rfl⟩
  ·by_cases h2:t.getD 0 0=90∨t.getD 0 0=42
   ·rw[show fr [] m t=cnt [t.getD 0 0] t by unfold fr;rw[if_neg h1,if_neg (by simp),if_pos h2]];exact⟨t.getD 0 0,J1 _ t,fun _=>.inr ⟨hm,.inr ⟨rfl,h2⟩⟩⟩
   ·rw[show fr [] m t=0 by unfold fr;rw[if_neg h1,if_neg (by simp),if_neg h2]];exact⟨0,rfl,fun h=>by omega⟩
  ·rw[show fr [y] m t=cnt [y] t by unfold fr;rw[if_neg h1,if_pos (by simp)]];exact⟨y,J1 y t,fun _=>.inr ⟨hm,.inl ⟨y,rfl,rfl⟩⟩⟩
theorem zpy{sg dg m:Nat}{sym t:List UInt8}{d c:Nat}{s:Bool}(hs:sym=[]∨∃y,sym=[y])(h:zmW sg dg sym m t=some (d,c,s)):
  ∃(pt:List UInt8)(x:UInt8)(f:Nat)(e:List UInt8),t=pt++(List.replicate f x++e)∧(pt=[]∧f=0∨pt=[46]∧0<f∨pt=[86])∧(e=[]∨e=[43]∨e=[45])∧d=dg+f∧c=f∧
   s=decide (0<sg+e.length)∧sg+e.length<2∧0<d∧(0<f→x=57∨(m=0∧((∃y,sym=[y]∧x=y)∨(sym=[]∧(x=90∨x=42))))):=by
 unfold zmW at h;split at h
 ·rename_i hp;split at h
  ·cases h
  ·rename_i hz;obtain⟨rfl,rfl,h3,h4,h5,h6⟩:=zkW h;obtain⟨x,hx,hx2⟩:=zs7 (sym:=sym) (m:=m) (t:=t.drop 1) hs;refine⟨[t.getD 0 0],x,fr sym m (t.drop 1),t.drop (1+fr sym m (t.drop 1)),?_,?_,h3,rfl,rfl,h4,h5,h6,hx2⟩
   ·rw[←List.drop_drop,←hx];rcases hp with hp|hp
    ·rw[hp];exact ze7 hp (by decide)
    ·rw[hp];exact ze7 hp (by decide)
   ·rcases hp with hp|hp
    ·rw[hp];right;left;refine⟨rfl,?_⟩;rcases Nat.eq_zero_or_pos (fr sym m (t.drop 1))with h0|h0
     ·exact (hz ⟨hp,h0⟩).elim
     ·exact h0
    ·rw[hp];exact .inr (.inr rfl)
 ·obtain⟨rfl,rfl,h3,h4,h5,h6⟩:=zkW h;exact⟨[],0,0,t,rfl,.inl ⟨rfl,rfl⟩,h3,rfl,rfl,h4,h5,h6,fun h=>by omega⟩
structure EdF(sg0:Nat)(q:List UInt8)(dg sc:Nat)(sn:Bool)(s1 m1:List UInt8)(c:UInt8)(k m:Nat)(pt:List UInt8)(x:UInt8)(f:Nat)(e:List UInt8):Prop where
 eq:q=s1++(m1++(List.replicate k c++(List.replicate m 57++(pt++(List.replicate f x++e)))))
 hs1:s1=[]∨s1=[43]∨s1=[45]
 hm1:m1=[]∨m1=[36]
 he:e=[]∨e=[43]∨e=[45]
 hpt:pt=[]∧f=0∨pt=[46]∧0<f∨pt=[86]
 run:k=0∨c=90∨c=42∨(2≤k∧(c=36∨c=43∨c=45))
 fx:0<f→x=57∨(m=0∧((0<k∧x=c)∨(k=0∧(x=90∨x=42))))
 dol:m1=[36]→0<k→c≠36
 hsg:sg0+s1.length+(if 0<k∧(c=43∨c=45)then 1 else 0)+e.length<2
 hsn:sn=decide (0<sg0+s1.length+(if 0<k∧(c=43∨c=45)then 1 else 0)+e.length)
 hdg:dg=(if 0<k∧(c=36∨c=43∨c=45)then k-1 else k)+m+f
 hsc:sc=f
 pos:0<dg
def EdG(sg0:Nat)(q:List UInt8)(dg sc:Nat)(sn:Bool):Prop:=∃s1 m1 c k m pt x f e,EdF sg0 q dg sc sn s1 m1 c k m pt x f e
theorem zkj{sg0 dg0:Nat}{t:List UInt8}{d cc:Nat}{sn:Bool}{s1 m1:List UInt8}{c:UInt8}{k:Nat}{sym:List UInt8}(hs1:s1=[]∨s1=[43]∨s1=[45])(hm1:m1=[]∨m1=[36])
  (hrun:k=0∨c=90∨c=42∨(2≤k∧(c=36∨c=43∨c=45))) (hsym:(k=0∧sym=[])∨(0<k∧sym=[c])) (hdol:m1=[36]→0<k→c≠36)
  (hdg:dg0=if 0<k∧(c=36∨c=43∨c=45)then k-1 else k)
  (h:nin (sg0+s1.length+(if 0<k∧(c=43∨c=45)then 1 else 0)) dg0 sym t=some (d,cc,sn)):EdG sg0 (s1++(m1++(List.replicate k c++t))) d cc sn:=by
 unfold nin at h;obtain⟨pt,x,f,e,h1,h2,h3,h4,h5,h6,h7,h8,h9⟩:=zpy (by rcases hsym with⟨_,h⟩|⟨_,h⟩;exact .inl h;exact .inr ⟨_,h⟩) h;refine⟨s1,m1,c,k,cnt [57] t,pt,x,f,e,?_,hs1,hm1,h3,h2,hrun,fun hf=>?_,hdol,h7,h6,by rw[h4,hdg],h5,h8⟩
 ·rw[←h1,←J1 57 t]
 ·rcases h9 hf with h|⟨h,h'⟩
  ·exact .inl h
  ·right;refine⟨h,?_⟩;rcases h' with⟨y,hy,rfl⟩|⟨hy,hx⟩
   ·rcases hsym with⟨_,h0⟩|⟨h0,h0'⟩
    ·rw[h0]at hy;cases hy
    ·rw[h0']at hy;cases hy;exact .inl ⟨h0,rfl⟩
   ·rcases hsym with⟨h0,_⟩|⟨_,h0'⟩
    ·exact .inr ⟨h0,hx⟩
    ·rw[h0']at hy;cases hy
theorem zjx{sg0:Nat}{t:List UInt8}{d cc:Nat}{sn:Bool}{s1 m1:List UInt8}(hs1:s1=[]∨s1=[43]∨s1=[45])(hm1:m1=[]∨m1=[36])(hdol:m1=[36]→cnt [36] t=0)
  (h:who (sg0+s1.length) t=some (d,cc,sn)):EdG sg0 (s1++(m1++t)) d cc sn:=by
 unfold who at h;have key:∀(c:UInt8)(dg0:Nat)(sg':Nat),0<cnt [c] t→(c=90∨c=42∨(2≤cnt [c] t∧(c=36∨c=43∨c=45)))→dg0=(if 0<cnt [c] t∧(c=36∨c=43∨c=45)then cnt [c] t-1 else cnt [c] t)→
   sg'=sg0+s1.length+(if 0<cnt [c] t∧(c=43∨c=45)then 1 else 0)→nin sg' dg0 [c] (t.drop (cnt [c] t))=some (d,cc,sn)→EdG sg0 (s1++(m1++t)) d cc sn:=by
  intro c dg0 sg' hk hr hd hs hn;rw[J1 c t];subst hs;exact zkj hs1 hm1 (.inr hr) (.inr ⟨hk,rfl⟩) (fun hm _ e=>by subst e;have:=hdol hm;omega) hd hn
 split at h
 ·rename_i hk;exact key 90 _ _ hk (.inl rfl) (by rw[if_neg (fun k=>absurd k.2 (by decide))]) (by rw[if_neg (fun k=>absurd k.2 (by decide))];rfl) h
 ·split at h
  ·rename_i hk;exact key 42 _ _ hk (.inr (.inl rfl)) (by rw[if_neg (fun k=>absurd k.2 (by decide))]) (by rw[if_neg (fun k=>absurd k.2 (by decide))];rfl) h
  ·split at h
   ·rename_i hk;exact key 36 _ _ (by omega) (.inr (.inr ⟨hk,.inl rfl⟩)) (by rw[if_pos ⟨by omega,.inl rfl⟩]) (by rw[if_neg (fun k=>absurd k.2 (by decide))];rfl) h
   ·split at h
    ·rename_i hk;exact key 43 _ _ (by omega) (.inr (.inr ⟨hk,.inr (.inl rfl)⟩)) (by rw[if_pos ⟨by omega,.inr (.inl rfl)⟩]) (by rw[if_pos ⟨by omega,.inl rfl⟩]) h
    ·split at h
     ·rename_i hk;exact key 45 _ _ (by omega) (.inr (.inr ⟨hk,.inr (.inr rfl)⟩)) (by rw[if_pos ⟨by omega,.inr (.inr rfl)⟩]) (by rw[if_pos ⟨by omega,.inr rfl⟩]) h
     ·have:=zkj (c:=0) (k:=0) (sg0:=sg0) hs1 hm1 (.inl rfl) (.inl ⟨rfl,rfl⟩) (fun _ h=>by omega) (dg0:=0) (by rw[if_neg (by omega)]) (by rw[if_neg (by omega)];exact h);exact this
theorem zkm{sg0:Nat}{t:List UInt8}{d cc:Nat}{sn:Bool}{s1:List UInt8}(hs1:s1=[]∨s1=[43]∨s1=[45])(h:mon (sg0+s1.length) t=some (d,cc,sn)):EdG sg0 (s1++t) d cc sn:=by
 unfold mon at h;split at h
 ·rename_i hk;have e:=J1 36 t;rw[hk]at e;have h2:cnt [36] (t.drop 1)=0:=by
   have h3:cnt [36] t=cnt [36] (List.replicate 1 36++t.drop 1):=by rw[←e]
   rw[hk]at h3;rw[show(List.replicate 1 (36:UInt8)++t.drop 1)=36::t.drop 1 from rfl,jN,if_pos (by rfl)]at h3;omega
  have:=zjx (sg0:=sg0) hs1 (.inr rfl) (fun _=>h2) h;rw[e];exact this
 ·have:=zjx (sg0:=sg0) (m1:=[]) hs1 (.inl rfl) (fun h=>by cases h) h;exact this
theorem zjT{sg0:Nat}{t:List UInt8}{d cc:Nat}{sn:Bool}(h:sgn sg0 t=some (d,cc,sn)):EdG sg0 t d cc sn:=by
 unfold sgn at h;have one:∀c:UInt8,(c=43∨c=45)→cnt [c] t=1→mon (sg0+1) (t.drop 1)=some (d,cc,sn)→EdG sg0 t d cc sn:=fun c hc hk hm=>by have e:=J1 c t;rw[hk]at e;have:=zkm (sg0:=sg0) (s1:=[c]) (by rcases hc with rfl|rfl;exact .inr (.inl rfl);exact .inr (.inr rfl)) hm;rw[e];exact this
 split at h
 ·rename_i hk;exact one 43 (.inl rfl) hk h
 ·split at h
  ·rename_i hk;exact one 45 (.inr rfl) hk h
  ·exact zkm (s1:=[]) (.inl rfl) h
def zR(p:List UInt8):List UInt8:=if tail2 p=[67,82]∨tail2 p=[68,66]then tail2 p else[]
def edBody(p:List UInt8):List UInt8:=if tail2 p=[67,82]∨tail2 p=[68,66]then p.take (p.length-2)else p
theorem zcg(p:List UInt8):p=edBody p++zR p:=by
 unfold edBody zR tail2;split
 ·rw[List.take_append_drop]
 ·rw[List.append_nil]
theorem zfi{p:List UInt8}{d cc:Nat}{sn:Bool}(h:edS p=some (d,cc,sn)):EdG (if zR p=[]then 0 else 1) (noIns (edBody p)) d cc sn:=by
 unfold edS at h;split at h
 ·cases h
 ·unfold zpH at h;unfold zR edBody;split at h
  ·rename_i ht;rw[if_pos ht,if_pos ht,if_neg (by rcases ht with e|e<;>rw[e]<;>simp)];exact zjT h
  ·rename_i ht;rw[if_neg ht,if_neg ht,if_pos rfl];exact zjT h
end Go.Proofs.C06
end
section
set_option maxRecDepth 100000
namespace Go.Proofs.C06
open Go Go.RowKit Go.Vc Go.Am
def flo(b:List UInt8):UInt8:=if 1<b.count 45 then 45 else if 1<b.count 43 then 43 else if 1<b.count 36 then 36 else 0
def zka(s:Shape):picture:=picture.mk (edBody s.Picture) (zR s.Picture) ((flo (edBody s.Picture)).toNat:Int)
theorem zi3(c:UInt8)(l:List UInt8):Lib.countByte l c=l.count c:=rfl
theorem zrT{p:List UInt8}(hp:p.length≤1000000)(a b:UInt8):yU p [a,b]=some (if tail2 p=[a,b]then p.take (p.length-2)else p,decide (tail2 p=[a,b])):=by unfold yU Lib.trimSuffix;rw[ze1,decide_eq_true (by omega),za];by_cases h:tail2 p=[a,b]<;>simp[h]
theorem zpK{N:Nat}(hN:1000<N)(b0 x:picture)(_hl:x.body.length≤1000):qy N N 3 0 b0 x [36,43,45]=some (picture.mk x.body x.tail (if 1<x.body.count 45 then 45 else if 1<x.body.count 43 then 43 else if 1<x.body.count 36 then 36 else x.float)):=by
 obtain⟨M,rfl⟩:∃M,N=M+4:=⟨N-4,by omega⟩
 have step:∀(n:Nat)(i:Nat)(y:picture)(c:UInt8),i<3→([36,43,45]:List UInt8).getD i 0=c→y.body=x.body→qy (M+4) (n+1) 3 (i:Int) b0 y [36,43,45]=
   qy (M+4) n 3 ((i+1:Nat):Int) b0 (if 1<x.body.count c then picture.mk y.body y.tail (c.toNat:Int)else y) [36,43,45]:=by
  intro n i y c hi hc hy;show zfk (M+4) (qy (M+4) n) 3 _ b0 y _=_;unfold zfk;have hin:inIx (i:Int) ([36,43,45]:List UInt8).length=true:=jb hi;have hcl:=List.count_le_length (a:=c) (l:=x.body);rw[zb,if_pos (by omega),hin,za,za,zx,hc,jL,List.map_singleton,jv];show chk (true&&true) (bnd (qU y.body [c]) fun rr1=>_)=_;rw[show qU y.body [c]=some ((x.body.count c:Nat):Int)by show some ((Lib.countByte y.body c:Nat):Int)=_;rw[hy,zi3]];simp only[Bool.and_self,za,zc];rw[zb,zg (by omega) (by omega),za,za,show((i:Int)+1)=((i+1:Nat):Int)by omega];by_cases h:1<x.body.count c
  ·rw[if_pos (by omega),if_pos h]
  ·rw[if_neg (by omega),if_neg h]
 have st2:∀(n i:Nat)(v:Int)(c:UInt8),i<3→([36,43,45]:List UInt8).getD i 0=c→qy (M+4) (n+1) 3 (i:Int) b0 (picture.mk x.body x.tail v) [36,43,45]=
   qy (M+4) n 3 ((i+1:Nat):Int) b0 (picture.mk x.body x.tail (if 1<x.body.count c then(c.toNat:Int)else v)) [36,43,45]:=fun n i v c hi hc=>by
  rw[step n i (picture.mk x.body x.tail v) c hi hc rfl];by_cases h:1<x.body.count c<;>simp[h]
 have e0:qy (M+4) (M+4) 3 0 b0 x [36,43,45]=qy (M+4) (M+3+1) 3 ((0:Nat):Int) b0 (picture.mk x.body x.tail x.float) [36,43,45]:=rfl;have e9:∀z,qy (M+4) (M+1) 3 ((2+1:Nat):Int) b0 z [36,43,45]=some z:=fun z=>rfl
 rw[e0,st2 (M+3) 0 _ 36 (by decide) rfl,show M+3=M+2+1 from rfl,st2 (M+2) 1 _ 43 (by decide) rfl,show M+2=M+1+1 from rfl,st2 (M+1) 2 _ 45 (by decide) rfl,e9];rfl
theorem zrE{N:Nat}(hN:1000<N){s:Shape}(hp:s.Picture.length≤400):eOf N s=some (zka s):=by
 obtain⟨M,rfl⟩:∃M,N=M+4:=⟨N-4,by omega⟩
 have hbl:(edBody s.Picture).length≤400:=by
  unfold edBody;split
  ·rw[List.length_take];omega
  ·exact hp
 have fin:∀x:picture,x.body=edBody s.Picture→x.tail=zR s.Picture→x.float=0→∀b0,qy (M+4) (M+4) ((([36,43,45].map toByte)).length:Int) 0 b0 x ([36,43,45].map toByte)=some (zka s):=by intro x h1 h2 h3 b0;have e:=zpK (N:=M+4) hN b0 x (by rw[h1];omega);rw[show(([36,43,45]:List Int).map toByte)=([36,43,45]:List UInt8)from rfl];rw[show((([36,43,45]:List UInt8)).length:Int)=3 from rfl,e,h1,h2,h3];unfold zka flo;congr 2;by_cases k1:1<(edBody s.Picture).count 45<;>by_cases k2:1<(edBody s.Picture).count 43<;>by_cases k3:1<(edBody s.Picture).count 36<;>simp[k1,k2,k3]
 unfold eOf;show Kc (M+4) (Kd (M+4) (M+3)) 2 0 s _ _ _=_;unfold Kc;have hi0:inIx 0 (([[67,82],[68,66]]:List (List UInt8))).length=true:=by decide
 have hi1:inIx 1 (([[67,82],[68,66]]:List (List UInt8))).length=true:=by decide
 rw[zb,if_pos (by decide),hi0,za,za,show atS ([[67,82],[68,66]]:List (List UInt8)) 0=[67,82]from rfl,zrT (by omega),zc];have two:∀b2:picture,Kd (M+4) (M+3) 2 1 s (picture.mk [] [] 0) b2 ([[67,82],[68,66]]:List (List UInt8))=
   qy (M+4) (M+4) ((([36,43,45].map toByte)).length:Int) 0 (picture.mk [] [] 0) (if tail2 s.Picture=[68,66]then picture.mk (s.Picture.take (s.Picture.length-2)) [68,66] b2.float else b2) ([36,43,45].map toByte):=by
  intro b2;show Kc (M+4) (Kd (M+4) (M+2)) 2 1 s _ _ _=_;unfold Kc;rw[zb,if_pos (by decide),hi1,za,za,show atS ([[67,82],[68,66]]:List (List UInt8)) 1=[68,66]from rfl,zrT (by omega),zc];by_cases h:tail2 s.Picture=[68,66]
  ·rw[if_pos h,if_pos h,decide_eq_true h];rfl
  ·rw[if_neg h,if_neg h,decide_eq_false h];rfl
 by_cases h:tail2 s.Picture=[67,82]
 ·have h':¬tail2 s.Picture=[68,66]:=by rw[h];decide
  rw[if_pos h,decide_eq_true h];dsimp only;rw[cond_true,zg (by omega) (by omega),za];show Kd (M+4) (M+3) 2 1 s _ _ _=_;rw[two,if_neg h'];exact fin _ (by unfold edBody;rw[if_pos (.inl h)]) (by unfold zR;rw[if_pos (.inl h),h]) rfl _
 ·rw[if_neg h,decide_eq_false h];dsimp only;rw[cond_false,zg (by omega) (by omega),za];show Kd (M+4) (M+3) 2 1 s _ _ _=_;rw[two];by_cases h':tail2 s.Picture=[68,66]
  ·rw[if_pos h'];exact fin _ (by unfold edBody;rw[if_pos (.inr h')]) (by unfold zR;rw[if_pos (.inr h'),h']) rfl _
  ·rw[if_neg h'];exact fin _ (by unfold edBody;rw[if_neg (by rintro(k|k);exact h k;exact h' k)]) (by unfold zR;rw[if_neg (by rintro(k|k);exact h k;exact h' k)]) rfl _
def dig(fl c:UInt8):Bool:=decide (c=57)||(decide (c=90)||(decide (c=42)||decide (c=fl)))
theorem Y2(N:Nat)(b t:List UInt8)(fl c:UInt8):Kg N (picture.mk b t (fl.toNat:Int)) (c.toNat:Int)=some (dig fl c):=by
 unfold Kg dig;have e57:((c.toNat:Int)=57)↔c=57:=Zf c 57 (by decide);have e90:((c.toNat:Int)=90)↔c=90:=Zf c 90 (by decide);have e42:((c.toNat:Int)=42)↔c=42:=Zf c 42 (by decide);have efl:((c.toNat:Int)=(fl.toNat:Int))↔c=fl:=by rw[←UInt8.toNat_inj];omega
 simp only[decide_eq_decide.2 e57,decide_eq_decide.2 e90,decide_eq_decide.2 e42,decide_eq_decide.2 efl];cases decide (c=57)<;>cases decide (c=90)<;>cases decide (c=42)<;>rfl
theorem zrD{N:Nat}(hN:1000<N){b t:List UInt8}(fl:UInt8)(set:List UInt8)(hb:b.length≤400):zhn N (picture.mk b t (fl.toNat:Int)) set=some (b.all fun c=>!dig fl c||set.contains c):=by
 have loop:∀(n i:Nat),i≤b.length→b.length-i<n→Kb N n set (b.length:Int) (i:Int) (picture.mk b t (fl.toNat:Int))=some ((b.drop i).all fun c=>!dig fl c||set.contains c):=by
  intro n;induction n with
  |zero=>intro i _ h;omega
  |succ n ih=>
   intro i hi hn;show WJ N (Kb N n) set _ _ _=_;unfold WJ;rw[zb];by_cases h:i<b.length
   ·have hd:b.drop i=b.getD i 0::b.drop (i+1):=zC h;have ih':=ih (i+1) (by omega) (by omega);have hlx:∀c:UInt8,jX set (c.toNat:Int)=some (Lib.indexByte set c):=fun c=>by unfold jX;rw[Wc]
    rw[if_pos (by omega)];dsimp only;rw[jb h,za,zx,Y2,zc,hd,List.all_cons,zg (by omega) (by omega),show((i:Int)+1)=((i+1:Nat):Int)by omega];simp only[za];rw[ih'];cases hg:dig fl (b.getD i 0)with
    |false=>simp
    |true=>
     rw[cond_true,hlx,zc,zb];have hx:=jn (b.getD i 0) set;by_cases hc:set.contains (b.getD i 0)=true
     ·rw[if_neg (by have:=hx.2 hc;omega),hc];simp
     ·rw[if_pos (by
       by_cases h0:Lib.indexByte set (b.getD i 0)<0
       ·exact h0
       ·exact (hc (hx.1 (by omega))).elim),(Bool.not_eq_true _).mp hc]
      rfl
   ·have:i=b.length:=by omega
    subst this;rw[if_neg (by omega),List.drop_length];rfl
 exact loop N 0 (by omega) (by omega)
structure WS where
 ds:List UInt8
 fst:Bool
 st:Nat
 out:List UInt8
 lst:Int
def zA(b:List UInt8):UInt8:=if b.contains 42=true then 42 else 32
def jO(fc c:UInt8)(r:Bool)(w:WS):WS:=if r=true then⟨w.ds,w.fst,w.st,w.out++[fc],(w.out.length:Int)⟩else⟨w.ds,w.fst,w.st,w.out++[c],w.lst⟩
def Vo(fc fl c:UInt8)(w:WS):Option WS:=
 if c=fl∧w.fst=false then some (jO fc c true ⟨w.ds,true,if w.st=0∧c≠57 then 1 else w.st,w.out,w.lst⟩)
 else match w.ds with
  |[]=>none
  |d::r=>some (jO fc d (decide ((if c=57∨d≠48 then 2 else if w.st=0∧c≠57 then 1 else w.st)=1)) ⟨r,w.fst,if c=57∨d≠48 then 2 else if w.st=0∧c≠57 then 1 else w.st,w.out,w.lst⟩)
def jG(fc fl:UInt8)(neg:Bool)(c:UInt8)(w:WS):Option WS:=if dig fl c=true then Vo fc fl c w else if c=86 then some ⟨w.ds,w.fst,2,w.out,w.lst⟩else if c=46 then some (jO fc 46 false ⟨w.ds,w.fst,2,w.out,w.lst⟩)else some (jO fc (shw c neg) (decide (w.st=1)) w)
def jU(fc fl:UInt8)(neg:Bool):List UInt8→WS→Option WS
 |[],w=>some w
 |c::b,w=>match jG fc fl neg c w with
  |some w'=>jU fc fl neg b w'
  |none=>none
theorem zl0(N:Nat)(b t:List UInt8)(f:Int)(ds:List UInt8)(ng fs:Bool)(st l:Int)(out:List UInt8):KK N b t f ds ng fs st l out=some (((zA b).toNat:Int),b,t,f,ds,ng,fs,st,l,out):=by
 unfold KK zA;rw[show YH b [42]=some (decide (0≤Lib.indexByte b 42))from rfl,zc,decide_eq_decide.2 (jn 42 b)];by_cases h:b.contains 42=true
 ·rw[decide_eq_true h,if_pos h];rfl
 ·rw[decide_eq_false h,if_neg h];rfl
theorem zjB(N:Nat)(b t:List UInt8)(f:Int)(ds:List UInt8)(ng fs:Bool)(st l:Int):Yn N b t f ds ng fs st l=some (((zA b).toNat:Int),b,t,f,ds,ng,fs,st,l):=by
 unfold Yn zA;rw[show YH b [42]=some (decide (0≤Lib.indexByte b 42))from rfl,zc,decide_eq_decide.2 (jn 42 b)];by_cases h:b.contains 42=true
 ·rw[decide_eq_true h,if_pos h];rfl
 ·rw[decide_eq_false h,if_neg h];rfl
theorem zdi(N:Nat)(b t:List UInt8)(f:Int)(ng:Bool)(c:UInt8)(r:Bool)(w:WS)(ho:w.out.length≤1000):
  zjy N (c.toNat:Int) r b t f w.ds ng w.fst (w.st:Int) w.lst w.out=some (b,t,f,(jO (zA b) c r w).ds,ng,(jO (zA b) c r w).fst,((jO (zA b) c r w).st:Int),(jO (zA b) c r w).lst,(jO (zA b) c r w).out):=by
 have k0:∀(u:UInt8)(l:Int),W5 N (u.toNat:Int) b t f w.ds ng w.fst (w.st:Int) l w.out=some (b,t,f,w.ds,ng,w.fst,(w.st:Int),l,w.out++[u]):=fun u l=>by unfold W5;rw[jL,List.map_singleton,jv,jA (by simp;omega)];rfl
 unfold zjy jO;cases r
 ·rw[cond_false,k0];simp
 ·rw[cond_true,zl0,zc];simp only[];rw[k0];simp
theorem W6(N:Nat)(b t:List UInt8)(f:Int)(ng:Bool)(c:UInt8)(r:Bool)(w:WS)(ho:w.out=[]):
  zcr N (c.toNat:Int) r b t f w.ds ng w.fst (w.st:Int) w.lst=some (b,t,f,(jO (zA b) c r w).ds,ng,(jO (zA b) c r w).fst,((jO (zA b) c r w).st:Int),(jO (zA b) c r w).lst,(jO (zA b) c r w).out):=by
 have k0:∀(u:UInt8)(l:Int),XB N (u.toNat:Int) b t f w.ds ng w.fst (w.st:Int) l=some (b,t,f,w.ds,ng,w.fst,(w.st:Int),l,[u]):=fun u l=>by unfold XB;rw[jL,List.map_singleton,jv,jA (by simp)];rfl
 unfold zcr jO;cases r
 ·rw[cond_false,k0];simp[ho]
 ·rw[cond_true,zjB,zc];simp only[];rw[k0];simp[ho]
end Go.Proofs.C06
end
section
set_option maxRecDepth 100000
namespace Go.Proofs.C06
open Go Go.RowKit Go.Vc Go.Am
def wT(b t:List UInt8)(f:Int)(ng:Bool)(w:WS):List UInt8×List UInt8×Int×List UInt8×Bool×Bool×Int×Int×List UInt8:=(b,t,f,w.ds,ng,w.fst,(w.st:Int),w.lst,w.out)
theorem zfU(N:Nat)(b t:List UInt8)(f:Int)(ng:Bool)(d:UInt8)(w:WS)(ho:w.out.length≤1000):
  yN N (d.toNat:Int) b t f w.ds ng w.fst (w.st:Int) w.lst w.out=some (wT b t f ng (jO (zA b) d (decide (w.st=1)) w)):=by
 unfold yN;rw[show decide ((w.st:Int)=1)=decide (w.st=1)from decide_eq_decide.2 (by omega),zdi N b t f ng d _ w ho,zc];rfl
theorem zfV(N:Nat)(b t:List UInt8)(f:Int)(ng:Bool)(c:UInt8)(t30:Bool)(w:WS)(ho:w.out.length≤1000)(_hd:w.ds.length≤1000):
  Z5 N (c.toNat:Int) t30 b t f w.ds ng w.fst (w.st:Int) w.lst w.out=zc6 (wT b t f ng) (if t30=true then some (jO (zA b) c true ⟨w.ds,true,w.st,w.out,w.lst⟩)else match w.ds with
   |[]=>none
   |d::r=>some (jO (zA b) d (decide ((if c=57∨d≠48 then 2 else w.st)=1)) ⟨r,w.fst,if c=57∨d≠48 then 2 else w.st,w.out,w.lst⟩)):=by
 unfold Z5;cases t30
 ·rw[cond_false,if_neg (by decide)];cases hds:w.ds with
  |nil=>rfl
  |cons d r=>
   rw[hds]at _hd;have h1:inIx 0 (d::r).length=true:=zm.2 ⟨by omega,by simp only[List.length_cons];omega⟩;have h2:zj 1 ((d::r).length:Int) (d::r).length=true:=by unfold zj;simp only[List.length_cons,Bool.and_eq_true,decide_eq_true_eq];omega
   have h3:byteAt (d::r) 0=(d.toNat:Int):=rfl;have h4:zI (d::r) 1=r:=rfl;have e57:((c.toNat:Int)=57)↔c=57:=Zf c 57 (by decide);have e48:((d.toNat:Int)=48)↔d=48:=Zf d 48 (by decide);rw[h1,za,h2,za,h3,h4,zb,zf];show _=some (wT b t f ng (jO (zA b) d (decide ((if c=57∨d≠48 then 2 else w.st)=1)) ⟨r,w.fst,if c=57∨d≠48 then 2 else w.st,w.out,w.lst⟩));have k2:∀st:Nat,yN N (d.toNat:Int) b t f r ng w.fst (st:Int) w.lst w.out=some (wT b t f ng (jO (zA b) d (decide (st=1)) ⟨r,w.fst,st,w.out,w.lst⟩)):=fun st=>zfU N b t f ng d ⟨r,w.fst,st,w.out,w.lst⟩ ho
   by_cases hc:c=57
   ·rw[if_pos (e57.2 hc),if_pos (.inl hc)];exact k2 2
   ·rw[if_neg (fun e=>hc (e57.1 e))];by_cases hd8:d=48
    ·rw[if_pos (e48.2 hd8),if_neg (by rintro(e|e);exact hc e;exact e hd8)];exact k2 w.st
    ·rw[if_neg (fun e=>hd8 (e48.1 e)),if_pos (.inr hd8)];exact k2 2
 ·rw[cond_true,if_pos rfl];have:=zdi N b t f ng c true ⟨w.ds,true,w.st,w.out,w.lst⟩ ho;rw[this,zc];rfl
theorem zlZ(N:Nat)(b t:List UInt8)(fl:UInt8)(ng:Bool)(c:UInt8)(w:WS)(ho:w.out.length≤1000)(hd:w.ds.length≤1000):
  zdj N (c.toNat:Int) b t (fl.toNat:Int) w.ds ng w.fst (w.st:Int) w.lst w.out=zc6 (wT b t (fl.toNat:Int) ng) (Vo (zA b) fl c w):=by
 have e57:((c.toNat:Int)=57)↔c=57:=Zf c 57 (by decide);have efl:((c.toNat:Int)=(fl.toNat:Int))↔c=fl:=by rw[←UInt8.toNat_inj];omega
 have k0:∀st:Nat,st=(if w.st=0∧c≠57 then 1 else w.st)→qL N (c.toNat:Int) b t (fl.toNat:Int) w.ds ng w.fst (st:Int) w.lst w.out=zc6 (wT b t (fl.toNat:Int) ng) (Vo (zA b) fl c w):=by
  intro st hst;unfold qL Vo;rw[zb,←hst];have k1:=fun t30=>zfV N b t (fl.toNat:Int) ng c t30 ⟨w.ds,w.fst,st,w.out,w.lst⟩ ho hd
  by_cases hc:c=fl
  ·rw[if_pos (efl.2 hc)];have:=k1 (!w.fst);dsimp only at this;rw[this];cases hf:w.fst
   ·rw[if_pos (show(!false)=true from rfl),if_pos (show c=fl∧false=false from⟨hc,rfl⟩)]
   ·rw[if_neg (show¬((!true)=true)from fun h=>by cases h),if_neg (show¬(c=fl∧true=false)from fun h=>by cases h.2)];all_goals rfl
  ·rw[if_neg (fun e=>hc (efl.1 e)),if_neg (fun h=>hc h.1)];have:=k1 false;dsimp only at this;rw[this,if_neg (show¬(false=true)from fun h=>by cases h)];all_goals rfl
 unfold zdj;rw[zb,zf];by_cases h0:w.st=0
 ·rw[if_pos (by omega)];by_cases hc:c=57
  ·rw[if_pos (e57.2 hc)];exact k0 w.st (by rw[if_neg (fun h=>h.2 hc)])
  ·rw[if_neg (fun e=>hc (e57.1 e))];exact k0 1 (by rw[if_pos ⟨h0,hc⟩])
 ·rw[if_neg (by omega)];exact k0 w.st (by rw[if_neg (fun h=>h0 h.1)])
theorem zdS(N:Nat)(b t:List UInt8)(f:Int)(ng:Bool)(d:UInt8)(w:WS)(ho:w.out=[]):
  yd N (d.toNat:Int) b t f w.ds ng w.fst (w.st:Int) w.lst=some (wT b t f ng (jO (zA b) d (decide (w.st=1)) w)):=by
 unfold yd;rw[show decide ((w.st:Int)=1)=decide (w.st=1)from decide_eq_decide.2 (by omega),W6 N b t f ng d _ w ho,zc];rfl
theorem zdT(N:Nat)(b t:List UInt8)(f:Int)(ng:Bool)(c:UInt8)(t30:Bool)(w:WS)(ho:w.out=[])(_hd:w.ds.length≤1000):
  Zd N (c.toNat:Int) t30 b t f w.ds ng w.fst (w.st:Int) w.lst=zc6 (wT b t f ng) (if t30=true then some (jO (zA b) c true ⟨w.ds,true,w.st,w.out,w.lst⟩)else match w.ds with
   |[]=>none
   |d::r=>some (jO (zA b) d (decide ((if c=57∨d≠48 then 2 else w.st)=1)) ⟨r,w.fst,if c=57∨d≠48 then 2 else w.st,w.out,w.lst⟩)):=by
 unfold Zd;cases t30
 ·rw[cond_false,if_neg (by decide)];cases hds:w.ds with
  |nil=>rfl
  |cons d r=>
   rw[hds]at _hd;have h1:inIx 0 (d::r).length=true:=zm.2 ⟨by omega,by simp only[List.length_cons];omega⟩;have h2:zj 1 ((d::r).length:Int) (d::r).length=true:=by unfold zj;simp only[List.length_cons,Bool.and_eq_true,decide_eq_true_eq];omega
   have h3:byteAt (d::r) 0=(d.toNat:Int):=rfl;have h4:zI (d::r) 1=r:=rfl;have e57:((c.toNat:Int)=57)↔c=57:=Zf c 57 (by decide);have e48:((d.toNat:Int)=48)↔d=48:=Zf d 48 (by decide);rw[h1,za,h2,za,h3,h4,zb,zf];show _=some (wT b t f ng (jO (zA b) d (decide ((if c=57∨d≠48 then 2 else w.st)=1)) ⟨r,w.fst,if c=57∨d≠48 then 2 else w.st,w.out,w.lst⟩));have k2:∀st:Nat,yd N (d.toNat:Int) b t f r ng w.fst (st:Int) w.lst=some (wT b t f ng (jO (zA b) d (decide (st=1)) ⟨r,w.fst,st,w.out,w.lst⟩)):=fun st=>zdS N b t f ng d ⟨r,w.fst,st,w.out,w.lst⟩ ho
   by_cases hc:c=57
   ·rw[if_pos (e57.2 hc),if_pos (.inl hc)];exact k2 2
   ·rw[if_neg (fun e=>hc (e57.1 e))];by_cases hd8:d=48
    ·rw[if_pos (e48.2 hd8),if_neg (by rintro(e|e);exact hc e;exact e hd8)];exact k2 w.st
    ·rw[if_neg (fun e=>hd8 (e48.1 e)),if_pos (.inr hd8)];exact k2 2
 ·rw[cond_true,if_pos rfl];have:=W6 N b t f ng c true ⟨w.ds,true,w.st,w.out,w.lst⟩ ho;rw[this,zc];rfl
theorem zjA(N:Nat)(b t:List UInt8)(fl:UInt8)(ng:Bool)(c:UInt8)(w:WS)(ho:w.out=[])(hd:w.ds.length≤1000):
  W7 N (c.toNat:Int) b t (fl.toNat:Int) w.ds ng w.fst (w.st:Int) w.lst=zc6 (wT b t (fl.toNat:Int) ng) (Vo (zA b) fl c w):=by
 have e57:((c.toNat:Int)=57)↔c=57:=Zf c 57 (by decide);have efl:((c.toNat:Int)=(fl.toNat:Int))↔c=fl:=by rw[←UInt8.toNat_inj];omega
 have k0:∀st:Nat,st=(if w.st=0∧c≠57 then 1 else w.st)→yY N (c.toNat:Int) b t (fl.toNat:Int) w.ds ng w.fst (st:Int) w.lst=zc6 (wT b t (fl.toNat:Int) ng) (Vo (zA b) fl c w):=by
  intro st hst;unfold yY Vo;rw[zb,←hst];have k1:=fun t30=>zdT N b t (fl.toNat:Int) ng c t30 ⟨w.ds,w.fst,st,w.out,w.lst⟩ ho hd
  by_cases hc:c=fl
  ·rw[if_pos (efl.2 hc)];have:=k1 (!w.fst);dsimp only at this;rw[this];cases hf:w.fst
   ·rw[if_pos (show(!false)=true from rfl),if_pos (show c=fl∧false=false from⟨hc,rfl⟩)]
   ·rw[if_neg (show¬((!true)=true)from fun h=>by cases h),if_neg (show¬(c=fl∧true=false)from fun h=>by cases h.2)];all_goals rfl
  ·rw[if_neg (fun e=>hc (efl.1 e)),if_neg (fun h=>hc h.1)];have:=k1 false;dsimp only at this;rw[this,if_neg (show¬(false=true)from fun h=>by cases h)];all_goals rfl
 unfold W7;rw[zb,zf];by_cases h0:w.st=0
 ·rw[if_pos (by omega)];by_cases hc:c=57
  ·rw[if_pos (e57.2 hc)];exact k0 w.st (by rw[if_neg (fun h=>h.2 hc)])
  ·rw[if_neg (fun e=>hc (e57.1 e))];exact k0 1 (by rw[if_pos ⟨h0,hc⟩])
 ·rw[if_neg (by omega)];exact k0 w.st (by rw[if_neg (fun h=>h0 h.1)])
theorem yE(fc c:UInt8)(r:Bool)(w:WS):(jO fc c r w).out.length=w.out.length+1∧(jO fc c r w).ds=w.ds:=by unfold jO;split<;>simp
theorem zjs{fc fl c:UInt8}{w w':WS}(h:Vo fc fl c w=some w'):w'.out.length=w.out.length+1∧w'.ds.length≤w.ds.length:=by
 unfold Vo at h;split at h
 ·cases h;have:=yE fc c true ⟨w.ds,true,if w.st=0∧c≠57 then 1 else w.st,w.out,w.lst⟩;rw[this.2];exact⟨this.1,Nat.le_refl _⟩
 ·split at h
  ·cases h
  ·rename_i d r hd;cases h;have:=yE fc d (decide ((if c=57∨d≠48 then 2 else if w.st=0∧c≠57 then 1 else w.st)=1)) ⟨r,w.fst,if c=57∨d≠48 then 2 else if w.st=0∧c≠57 then 1 else w.st,w.out,w.lst⟩;rw[this.2,hd];exact⟨this.1,by simp⟩
theorem zgu{fc fl c:UInt8}{neg:Bool}{w w':WS}(h:jG fc fl neg c w=some w'):w'.out.length≤w.out.length+1∧w.out.length≤w'.out.length∧w'.ds.length≤w.ds.length∧(w'.out=[]→c=86∧w.out=[]):=by
 unfold jG at h;split at h
 ·have:=zjs h;exact⟨by omega,by omega,this.2,fun e=>by rw[e]at this;simp at this⟩
 ·split at h
  ·rename_i hc;cases h;exact⟨by simp,by simp,Nat.le_refl _,fun e=>⟨hc,e⟩⟩
  ·split at h
   ·cases h;have:=yE fc 46 false ⟨w.ds,w.fst,2,w.out,w.lst⟩;rw[this.2];exact⟨by rw[this.1];simp,by rw[this.1];simp,Nat.le_refl _,fun e=>by have:=this.1;rw[e]at this;simp at this⟩
   ·cases h;have:=yE fc (shw c neg) (decide (w.st=1)) w;rw[this.2];exact⟨by rw[this.1];exact Nat.le_refl _,by rw[this.1];omega,Nat.le_refl _,fun e=>by have:=this.1;rw[e]at this;simp at this⟩
def W4(fl:UInt8)(neg:Bool)(t:List UInt8)(w:WS):List UInt8:=(if fl≠0∧0≤w.lst then w.out.set w.lst.toNat (shw fl neg)else w.out)++(if neg=true then t else List.replicate t.length 32)
theorem XA(N:Nat)(b t:List UInt8)(f:Int)(neg:Bool)(w:WS)(_hw:w.out.length≤1000)(ht:t.length≤10)(out:List UInt8)(ho:out.length≤1000):
  ∃r,wWrite_k1s1 N b t f w.ds neg w.fst (w.st:Int) w.lst out=some r∧r.1=out++(if neg=true then t else List.replicate t.length 32):=by
 unfold wWrite_k1s1;have k2:∀u:List UInt8,u.length≤10→∃r,Zc N u b t f w.ds neg w.fst (w.st:Int) w.lst out=some r∧r.1=out++u:=fun u hu=>by unfold Zc;rw[jA (by simp;omega),za];exact⟨_,rfl,rfl⟩
 cases neg
 ·rw[Bool.not_false,cond_true,XZ 32 (by omega),zc,if_neg (by decide)];exact k2 _ (by simp;omega)
 ·rw[Bool.not_true,cond_false,if_pos rfl];exact k2 _ ht
theorem zdM(N:Nat)(b t:List UInt8)(fl:UInt8)(neg:Bool)(w:WS)(hw:w.out.length≤1000)(ht:t.length≤10)(hl:w.lst<(w.out.length:Int)):
  ∃r,JN N b t (fl.toNat:Int) w.ds neg w.fst (w.st:Int) w.lst w.out=some r∧r.1=W4 fl neg t w:=by
 have k3:∀q:Bool,q=decide (fl≠0∧0≤w.lst)→∃r,Zb N q b t (fl.toNat:Int) w.ds neg w.fst (w.st:Int) w.lst w.out=some r∧r.1=W4 fl neg t w:=by
  intro q hq;unfold Zb W4;by_cases h:fl≠0∧0≤w.lst
  ·rw[hq,decide_eq_true h,cond_true,QT,zc,if_pos h];have hi:inIx w.lst w.out.length=true:=zm.2 ⟨h.2,hl⟩;rw[hi,jL,za,jv];exact XA N b t _ neg w hw ht _ (by simpa using hw)
  ·rw[hq,decide_eq_false h,cond_false,if_neg h];exact XA N b t _ neg w hw ht _ hw
 unfold JN;rw[zf];have e0:((fl.toNat:Int)=0)↔fl=0:=Zf fl 0 (by decide);by_cases h:fl=0
 ·rw[if_pos (e0.2 h)];exact k3 false (by simp[h])
 ·rw[if_neg (fun e=>h (e0.1 e))];exact k3 _ (by simp[h])
theorem W0{fc c:UInt8}{r:Bool}{w:WS}(h:w.lst<(w.out.length:Int)):(jO fc c r w).lst<((jO fc c r w).out.length:Int):=by unfold jO;split<;>simp<;>omega
theorem zgv{fc fl c:UInt8}{neg:Bool}{w w':WS}(h:jG fc fl neg c w=some w')(hl:w.lst<(w.out.length:Int)):w'.lst<(w'.out.length:Int):=by
 unfold jG at h;split at h
 ·unfold Vo at h;split at h
  ·cases h;exact W0 hl
  ·split at h
   ·cases h
   ·cases h;exact W0 hl
 ·split at h
  ·cases h;exact hl
  ·split at h
   ·cases h;exact W0 hl
   ·cases h;exact W0 hl
section
variable {N : Nat} {b t : List UInt8} {fl : UInt8} {neg : Bool} (hb : b.length ≤ 400) (ht : t.length ≤ 10)
include hb ht
theorem zdN:∀(n i:Nat)(w:WS),i≤b.length→b.length-i<n→w.out.length≤i→w.ds.length≤1000→w.lst<(w.out.length:Int)→∀w',jU (zA b) fl neg (b.drop i) w=some w'→
  ∃r,yX N n (.inr ((b.length:Int),(i:Int),b,t,(fl.toNat:Int),w.ds,neg,w.fst,(w.st:Int),w.lst,w.out))=some r∧r.1=W4 fl neg t w'
 |0,i,w,_,h,_,_,_,_,_=>by omega
 |n+1,i,w,hi,hn,ho,hd,hl,w',hr=>by
  show∃r,Qg N (yX N n) _ _ b t _ w.ds neg w.fst _ w.lst w.out=some r∧_;unfold Qg;rw[zb];by_cases h:i<b.length
  ·rw[if_pos (by omega),jb h,za,zx,Y2,zc];rw[zC h]at hr;obtain⟨c,hc⟩:∃c,b.getD i 0=c:=⟨_,rfl⟩
   rw[hc]at hr⊢;unfold jU at hr;split at hr
   ·rename_i w1 hs;have hout:=zgu hs;have hlst:=zgv hs hl;have ih:=zdN n (i+1) w1 (by omega) (by omega) (by omega) (by omega) hlst w' hr;have hk:inKb .i64 ((i:Int)+1)=true:=zg (by omega) (by omega);have e86:((c.toNat:Int)=86)↔c=86:=Zf c 86 (by decide);have e46:((c.toNat:Int)=46)↔c=46:=Zf c 46 (by decide);rw[show((i:Int)+1)=((i+1:Nat):Int)by omega]at hk⊢;unfold jG at hs;cases hg:dig fl c with
    |true=>rw[hg,if_pos rfl]at hs;rw[cond_true,zlZ N b t fl neg c w (by omega) hd,hs];show∃r,bnd (some (wT b t (fl.toNat:Int) neg w1)) _=some r∧_;rw[zc,hk,za];exact ih
    |false=>
     rw[hg,if_neg (by decide)]at hs;rw[cond_false,zb,zb];by_cases h86:c=86
     ·rw[if_pos h86]at hs;cases hs;rw[if_pos (e86.2 h86),hk,za];exact ih
     ·rw[if_neg h86]at hs;rw[if_neg (fun e=>h86 (e86.1 e))];by_cases h46:c=46
      ·rw[if_pos h46]at hs;cases hs;rw[if_pos (e46.2 h46),h46];have:=zdi N b t (fl.toNat:Int) neg 46 false ⟨w.ds,w.fst,2,w.out,w.lst⟩ (by show w.out.length≤1000;omega);rw[show zjy N ((46:UInt8).toNat:Int) false b t (fl.toNat:Int) w.ds neg w.fst 2 w.lst w.out=_ from this,zc,hk,za];exact ih
      ·rw[if_neg h46]at hs;cases hs;rw[if_neg (fun e=>h46 (e46.1 e)),QT,zc,show decide ((w.st:Int)=1)=decide (w.st=1)from decide_eq_decide.2 (by omega),zdi N b t (fl.toNat:Int) neg _ _ w (by omega),zc,hk,za];exact ih
   ·cases hr
  ·have e:i=b.length:=by omega
   subst e;rw[List.drop_length]at hr;cases hr;rw[if_neg (by omega)];exact zdM N b t fl neg w (by omega) ht hl
theorem zdO:∀(n i:Nat)(w:WS),i≤b.length→b.length-i<n→w.out=[]→w.ds.length≤1000→w.lst<0→∀w',jU (zA b) fl neg (b.drop i) w=some w'→w'.out≠[]→
  ∃r,yX N n (.inl ((b.length:Int),(i:Int),b,t,(fl.toNat:Int),w.ds,neg,w.fst,(w.st:Int),w.lst))=some r∧r.1=W4 fl neg t w'
 |0,i,w,_,h,_,_,_,_,_,_=>by omega
 |n+1,i,w,hi,hn,ho,hd,hl,w',hr,hne=>by
  show∃r,Qh N (yX N n) _ _ b t _ w.ds neg w.fst _ w.lst=some r∧_;unfold Qh;rw[zb];by_cases h:i<b.length
  ·rw[if_pos (by omega),jb h,za,zx,Y2,zc];rw[zC h]at hr;obtain⟨c,hc⟩:∃c,b.getD i 0=c:=⟨_,rfl⟩
   rw[hc]at hr⊢;unfold jU at hr;split at hr
   ·rename_i w1 hs;have hout:=zgu hs;rw[ho]at hout;have hlst:=zgv hs (by rw[ho];exact hl);have ih:=zdN (N:=N) (fl:=fl) (neg:=neg) hb ht n (i+1) w1 (by omega) (by omega) (by simp at hout;omega) (by omega) hlst w' hr;have hk:inKb .i64 ((i:Int)+1)=true:=zg (by omega) (by omega);have e86:((c.toNat:Int)=86)↔c=86:=Zf c 86 (by decide);have e46:((c.toNat:Int)=46)↔c=46:=Zf c 46 (by decide);rw[show((i:Int)+1)=((i+1:Nat):Int)by omega]at hk⊢;unfold jG at hs;cases hg:dig fl c with
    |true=>rw[hg,if_pos rfl]at hs;rw[cond_true,zjA N b t fl neg c w ho hd,hs];show∃r,bnd (some (wT b t (fl.toNat:Int) neg w1)) _=some r∧_;rw[zc,hk,za];exact ih
    |false=>
     rw[hg,if_neg (by decide)]at hs;rw[cond_false,zb,zb];by_cases h86:c=86
     ·rw[if_pos h86]at hs;cases hs;rw[if_pos (e86.2 h86),hk,za];exact zdO n (i+1) ⟨w.ds,w.fst,2,w.out,w.lst⟩ (by omega) (by omega) ho hd hl w' hr hne
     ·rw[if_neg h86]at hs;rw[if_neg (fun e=>h86 (e86.1 e))];by_cases h46:c=46
      ·rw[if_pos h46]at hs;cases hs;rw[if_pos (e46.2 h46),h46];have:=W6 N b t (fl.toNat:Int) neg 46 false ⟨w.ds,w.fst,2,w.out,w.lst⟩ ho;rw[show zcr N ((46:UInt8).toNat:Int) false b t (fl.toNat:Int) w.ds neg w.fst 2 w.lst=_ from this,zc,hk,za];exact ih
      ·rw[if_neg h46]at hs;cases hs;rw[if_neg (fun e=>h46 (e46.1 e)),QT,zc,show decide ((w.st:Int)=1)=decide (w.st=1)from decide_eq_decide.2 (by omega),W6 N b t (fl.toNat:Int) neg _ _ w ho,zc,hk,za];exact ih
   ·cases hr
  ·have e:i=b.length:=by omega
   subst e;rw[List.drop_length]at hr;cases hr;exact (hne ho).elim
theorem zoJ(hN:1000<N)(ds:List UInt8)(hd:ds.length≤1000){w':WS}(hr:jU (zA b) fl neg b ⟨ds,false,0,[],-1⟩=some w')(hne:w'.out≠[])(l0:Int):
  ∃r,zdP N b t (fl.toNat:Int) ds neg false 0 l0=some r∧r.1=W4 fl neg t w':=by
 unfold zdP;exact zdO (N:=N) hb ht N 0 ⟨ds,false,0,[],-1⟩ (by omega) (by omega) rfl hd (by show(-1:Int)<0;decide) w' hr hne
end
end Go.Proofs.C06
end
