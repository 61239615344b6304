/-
  A part of the proof of the laws.
-/
import Derived.Test.YtdkkileemeopbaaGreatDoorEc
import Derived.Test.YtdkkileemeopbaaGreatDoorEa
section
set_option maxRecDepth 100000
namespace Go.Proofs.C06
open Go Go.RowKit Go.Vc Go.Am Go.Dg
def clnD(d:UInt8):UInt8:=if 48<=d.toNat/\d.toNat<=57 then d else 48
def dgs(fl:UInt8):Bool->uBp->uBp->uBp
 |_,[],_=>[]
 |f,c::r,bs=>if c=86 then dgs fl f r bs else if dig fl c=true then(if c=fl/\f=true then dgs fl false r bs.tail else clnD (bs.headD 0)::dgs fl f r bs.tail)else dgs fl f r bs.tail
theorem zmo(d:UInt8):48<=(clnD d).toNat/\(clnD d).toNat<=57:=by
 unfold clnD;split
 ·assumption
 ·decide
theorem Vg(fl:UInt8):∀(f:Bool)(r bs:uBp),Digs (dgs fl f r bs)
 |_,[],_=>Digs.nil
 |f,c::r,bs=>by
  unfold dgs;split
  ·exact Vg fl f r bs
  ·split
   ·split
    ·exact Vg fl false r _
    ·exact Digs.cons.2 ⟨zmo _,Vg fl f r _⟩
   ·exact Vg fl f r _
theorem Wj{fl:UInt8}(hf:fl≠86):∀(f:Bool)(r bs:uBp),(dgs fl f r bs).length=need fl (!f) r
 |_,[],_=>rfl
 |f,c::r,bs=>by
  unfold dgs need;by_cases h:c=86
  ·subst h;rw[if_pos rfl,if_neg (by unfold dig;simp;exact fun e=>hf e.symm),Wj hf f r bs]
  ·rw[if_neg h];by_cases hd:dig fl c=true
   ·rw[if_pos hd,if_pos hd];cases f
    ·rw[if_neg (by rintro⟨_,e⟩;cases e),if_neg (by rintro⟨_,e⟩;cases e),mI,Wj hf false r]
    ·by_cases hc:c=fl
     ·rw[if_pos ⟨hc,rfl⟩,if_pos ⟨hc,rfl⟩,Wj hf false r];rfl
     ·rw[if_neg (fun e=>hc e.1),if_neg (fun e=>hc e.1),mI,Wj hf true r]
   ·rw[if_neg hd,if_neg hd,Wj hf f r]
def wide(r:uBp):Nat:=r.countP fun c=>!decide (c=86)
theorem Jh(c:UInt8)(r:uBp):wide (c::r)=(if c=86 then 0 else 1)+wide r:=by
 unfold wide;rw[List.countP_cons];by_cases h:c=86
 ·rw[if_pos h,if_neg (by simp[h])];omega
 ·rw[if_neg h,if_pos (by simp[h])];omega
theorem zkv(a b:uBp):wide (a++b)=wide a+wide b:=uBj
theorem zuc(r:uBp):wide r<=r.length:=List.countP_le_length
theorem za3(p:uBp):szN p=wide p:=by
 unfold szN;induction p with
 |nil=>rfl
 |cons c r ih=>
  rw[Jh,mI,List.count_cons,<-ih];have:=uAs (a:=(86:UInt8)) (l:=r);by_cases h:c=86
  ·simp[h]
  ·simp[h];omega
theorem zh9{b:uBp}{i:Nat}(h:i<b.length):(b.drop i).headD 0=b.getD i 0/\(b.drop i).tail=b.drop (i+1):=by rw[zM h];exact⟨rfl,rfl⟩
section
variable {N : Nat} {b body tail : uBp} {fl : UInt8} (hb : b.length <= 1000) (hbd : body.length <= 1000)
include hb hbd
theorem zds:∀(k i at_:Nat)(f:Bool)(out:uBp),i<=body.length->body.length-i<k->at_+wide (body.drop i)<=b.length->out.length<=i->
  jg N k (.inr (b,f,(at_:Int),(body.length:Int),(i:Int),picture.mk body tail (fl.toNat:Int),out))=some (out++dgs fl f (body.drop i) (b.drop at_))
 |0,i,at_,f,out,hi,h,_,_=>by omega
 |k+1,i,at_,f,out,hi,h,hw,ho=>by
  show YU N (jg N k) b f (at_:Int) (body.length:Int) (i:Int) (picture.mk body tail (fl.toNat:Int)) out=_;unfold YU;rw[zb];by_cases hlt:i<body.length
  ·have hdr:body.drop i=body.getD i 0::body.drop (i+1):=zM hlt;rw[hdr,Jh]at hw;have e86:((body.getD i 0).toNat:Int)=86↔body.getD i 0=86:=ZB _ 86 (by decide);have hby:byteAt body (i:Int)=((body.getD i 0).toNat:Int):=rfl;have hi1:(i:Int)+1=((i+1:Nat):Int):=by omega
   have ix:zn (i:Int) body.length=true:=zt.2 ⟨by omega,by omega⟩;have go:=fun(at_:Nat)(f:Bool)(out:uBp) hw ho=>zds k (i+1) at_ f out (by omega) (by omega) hw ho
   dsimp only;rw[if_pos (by omega),ix,za,hby,hdr,dgs,zb];generalize body.getD i 0=c at*
   by_cases h86:c=86
   ·rw[if_pos h86]at hw;rw[if_pos (e86.2 h86),if_pos h86,zh (by omega) (by omega),za,hi1];exact go at_ f out (by omega) (by omega)
   ·rw[if_neg h86]at hw;have hat:at_<b.length:=by omega
    have ia:zn (at_:Int) b.length=true:=zt.2 ⟨by omega,by omega⟩;have ha1:(at_:Int)+1=((at_+1:Nat):Int):=by omega
    have hba:byteAt b (at_:Int)=((b.getD at_ 0).toNat:Int):=rfl;obtain⟨d1,d2⟩:=zh9 hat;rw[if_neg (fun e=>h86 (e86.1 e)),if_neg h86,ia,za,zh (by omega) (by omega),za,QH,zc,hba,d1,d2,ha1];generalize b.getD at_ 0=d;have k1:∀t:Bool,t=decide (c=fl/\f=true)->qX N (jg N k) b f ((at_+1:Nat):Int) (d.toNat:Int) (body.length:Int) (i:Int) t (picture.mk body tail (fl.toNat:Int)) out=
      some (out++if c=fl/\f=true then dgs fl false (body.drop (i+1)) (b.drop (at_+1))else clnD d::dgs fl f (body.drop (i+1)) (b.drop (at_+1))):=by
     rintro t rfl;unfold qX;rw[zb];by_cases hf:c=fl/\f=true
     ·rw[if_pos hf,if_pos hf,zh (by omega) (by omega),za,hi1];exact go (at_+1) false out (by omega) (by omega)
     ·rw[if_neg hf,if_neg hf];have fin:∀x:UInt8,x=clnD d->jg N k (.inr (b,f,((at_+1:Nat):Int),(body.length:Int),((i+1:Nat):Int),picture.mk body tail (fl.toNat:Int),out++[x]))=
        some (out++clnD d::dgs fl f (body.drop (i+1)) (b.drop (at_+1))):=by
       rintro x rfl;rw[go (at_+1) f _ (by omega) (by simp;omega),mK];rfl
      rw[zb];have e48:([48]:List Int).map toByte=[48]:=rfl;by_cases h1:d.toNat<48
      ·rw[if_pos (by omega),e48,jP (by simp;omega),za,zh (by omega) (by omega),za,hi1];exact fin 48 (by unfold clnD;rw[if_neg (by omega)])
      ·rw[if_neg (by omega),zb];by_cases h2:57<d.toNat
       ·rw[if_pos (by omega),e48,jP (by simp;omega),za,zh (by omega) (by omega),za,hi1];exact fin 48 (by unfold clnD;rw[if_neg (by omega)])
       ·rw[if_neg (by omega),yq,uAg,za,uAT,j1,jP (by simp;omega),za,zh (by omega) (by omega),za,hi1];exact fin d (by unfold clnD;rw[if_pos (by omega)])
    cases hd:dig fl c with
    |false=>rw[uA4,cond_true,if_neg (by decide),zh (by omega) (by omega),za,hi1];exact go (at_+1) f out (by omega) (by omega)
    |true=>
     rw[uAb,cond_false,if_pos rfl,zb];by_cases hc:c=fl
     ·rw[if_pos (by rw[hc])];exact k1 f (by simp[hc])
     ·rw[if_neg (fun e=>hc (UInt8.toNat_inj.1 (by omega)))];exact k1 false (by simp[hc])
  ·rw[if_neg (by omega),nW (by omega)];simp[dgs]
theorem zdt:∀(k i at_:Nat)(f:Bool),i<=body.length->body.length-i<k->at_+wide (body.drop i)<=b.length->
  jg N k (.inl (b,f,(at_:Int),(body.length:Int),(i:Int),picture.mk body tail (fl.toNat:Int)))=some (dgs fl f (body.drop i) (b.drop at_))
 |0,i,at_,f,hi,h,_=>by omega
 |k+1,i,at_,f,hi,h,hw=>by
  show YV N (jg N k) b f (at_:Int) (body.length:Int) (i:Int) (picture.mk body tail (fl.toNat:Int))=_;unfold YV;rw[zb];by_cases hlt:i<body.length
  ·have hdr:body.drop i=body.getD i 0::body.drop (i+1):=zM hlt;rw[hdr,Jh]at hw;have e86:((body.getD i 0).toNat:Int)=86↔body.getD i 0=86:=ZB _ 86 (by decide);have hby:byteAt body (i:Int)=((body.getD i 0).toNat:Int):=rfl;have hi1:(i:Int)+1=((i+1:Nat):Int):=by omega
   have ix:zn (i:Int) body.length=true:=zt.2 ⟨by omega,by omega⟩;have go:=fun(at_:Nat)(f:Bool) hw=>zdt k (i+1) at_ f (by omega) (by omega) hw
   have go2:=fun(at_:Nat)(f:Bool)(out:uBp) hw ho=>zds (N:=N) (tail:=tail) (fl:=fl) hb hbd k (i+1) at_ f out (by omega) (by omega) hw ho
   dsimp only;rw[if_pos (by omega),ix,za,hby,hdr,dgs,zb];generalize body.getD i 0=c at*
   by_cases h86:c=86
   ·rw[if_pos h86]at hw;rw[if_pos (e86.2 h86),if_pos h86,zh (by omega) (by omega),za,hi1];exact go at_ f (by omega)
   ·rw[if_neg h86]at hw;have hat:at_<b.length:=by omega
    have ia:zn (at_:Int) b.length=true:=zt.2 ⟨by omega,by omega⟩;have ha1:(at_:Int)+1=((at_+1:Nat):Int):=by omega
    have hba:byteAt b (at_:Int)=((b.getD at_ 0).toNat:Int):=rfl;obtain⟨d1,d2⟩:=zh9 hat;rw[if_neg (fun e=>h86 (e86.1 e)),if_neg h86,ia,za,zh (by omega) (by omega),za,QH,zc,hba,d1,d2,ha1];generalize b.getD at_ 0=d;have k1:∀t:Bool,t=decide (c=fl/\f=true)->J7 N (jg N k) b f ((at_+1:Nat):Int) (d.toNat:Int) (body.length:Int) (i:Int) t (picture.mk body tail (fl.toNat:Int))=
      some (if c=fl/\f=true then dgs fl false (body.drop (i+1)) (b.drop (at_+1))else clnD d::dgs fl f (body.drop (i+1)) (b.drop (at_+1))):=by
     rintro t rfl;unfold J7;rw[zb];by_cases hf:c=fl/\f=true
     ·rw[if_pos hf,if_pos hf,zh (by omega) (by omega),za,hi1];exact go (at_+1) false (by omega)
     ·rw[if_neg hf,if_neg hf];have fin:∀x:UInt8,x=clnD d->jg N k (.inr (b,f,((at_+1:Nat):Int),(body.length:Int),((i+1:Nat):Int),picture.mk body tail (fl.toNat:Int),[]++[x]))=
        some (clnD d::dgs fl f (body.drop (i+1)) (b.drop (at_+1))):=by
       rintro x rfl;rw[go2 (at_+1) f _ (by omega) (by simp)];rfl
      rw[zb];have e48:([48]:List Int).map toByte=[48]:=rfl;by_cases h1:d.toNat<48
      ·rw[if_pos (by omega),e48,jP (by simp),za,zh (by omega) (by omega),za,hi1];exact fin 48 (by unfold clnD;rw[if_neg (by omega)])
      ·rw[if_neg (by omega),zb];by_cases h2:57<d.toNat
       ·rw[if_pos (by omega),e48,jP (by simp),za,zh (by omega) (by omega),za,hi1];exact fin 48 (by unfold clnD;rw[if_neg (by omega)])
       ·rw[if_neg (by omega),yq,uAg,za,uAT,j1,jP (by simp),za,zh (by omega) (by omega),za,hi1];exact fin d (by unfold clnD;rw[if_pos (by omega)])
    cases hd:dig fl c with
    |false=>rw[uA4,cond_true,if_neg (by decide),zh (by omega) (by omega),za,hi1];exact go (at_+1) f (by omega)
    |true=>
     rw[uAb,cond_false,if_pos rfl,zb];by_cases hc:c=fl
     ·rw[if_pos (by rw[hc])];exact k1 f (by simp[hc])
     ·rw[if_neg (fun e=>hc (UInt8.toNat_inj.1 (by omega)))];exact k1 false (by simp[hc])
  ·rw[if_neg (by omega),nW (by omega)];simp[dgs]
end
def zdz(s:Shape)(b:uBp):Nat:=val (dgs (flS s) true (edBody s.uC) b)
def WX(s:Shape)(n sc:Nat)(b:uBp):Decimal×Int:=if(b.length:Int)≠s.uG then(zew,5)else if edT s n false (zdz s b)=some b then(gD false (zdz s b) sc,0)else if edT s n true (zdz s b)=some b then(gD true (zdz s b) sc,0)else(zew,15)
theorem zmB{s:Shape}{n sc:Nat}{sg:Bool}(h:ES s n sc sg)(b:uBp):Digs (dgs (flS s) true (edBody s.uC) b)/\(dgs (flS s) true (edBody s.uC) b).length=n/\zdz s b<10^n:=by
 have h1:=Vg (flS s) true (edBody s.uC) b;have h2:(dgs (flS s) true (edBody s.uC) b).length=n:=by rw[Wj (show flS s≠86 from KZ _)];exact K6 h.ed
 exact⟨h1,h2,h2▸j9 h1⟩
theorem zwx{neg:Bool}{l:uBp}{n sc:Nat}(hd:Digs l)(hl:l.length=n)(h1:1<=n)(h2:n<=62)(hs:sc<=62):nrm neg l (sc:Int)=(gD neg (val l) sc,0):=by
 have e0:(-(sc:Int)).toNat=0:=by omega
 have hlt:val l<10^n:=hl▸j9 hd;rw[zag,e0,nH,mQ,mP]
 ·rfl
 ·rw[e0,nH,mQ];exact nD (yi h1 hlt) h2
 ·exact nD (zY _ _ _) (by omega)
def zx2(s:Shape)(b:uBp):Field:=Field.mk s.uD s.uI s.uC s.uA s.uB s.uE s.uK s.uL s.uN s.uJ s.uG b
theorem zmQ{N:Nat}(hN:3000<N){s:Shape}{n sc:Nat}{sg:Bool}(h:ES s n sc sg)(hc:chkV s=0)(b:uBp):zin N (zx2 s b)=some (WX s n sc b):=by
 have h18:=h.n18;have h1:=h.n1;have h2:=h.scn;have hp:s.uC.length<=400:=by have:=h.len;omega
 have hk:XZ s 5=0:=by unfold XZ;rw[if_neg (fun e=>e hc),if_neg (fun e=>e h.cat)]
 unfold zin WX;show bnd (zf5 N s 5) (fun rr=>cond (!decide (rr=0)) _ (cond (!decide (((b.length:Nat):Int)=s.uG)) _ (bnd (eOf N s) fun rr1=>bnd (zeq N rr1 b) fun rr2=>bnd (zcN N false rr2 s.uB) fun rr3=>cond (decide (rr3.2=0)) (bnd (WQ N rr3.1 s) fun rr4=>bnd (zaI N rr4 b) fun rr5=>cond rr5 _ (bnd (zcN N true rr2 s.uB) fun rr6=>cond (decide (rr6.2=0)) (bnd (WQ N rr6.1 s) fun rr7=>bnd (zaI N rr7 b) _) _)) _)))=_;rw[zf4 (by omega) hp,hk,zc,zg,if_pos rfl,zg];by_cases hl:(b.length:Int)=s.uG
 ·obtain⟨g1,g2,g3⟩:=zmB h b;have hsz:=h.siz;have hlen:=h.len;have hw:0+wide ((edBody s.uC).drop 0)<=b.length:=by have e:s.uC=_:=zcV s.uC;rw[za3,e,zkv]at hsz;rw[nS];omega
  have hbl:b.length<=1000:=by rw[za3]at hsz;have:=zuc s.uC;omega
  have hdg:zeq N (zli s) b=some (dgs (flS s) true (edBody s.uC) b):=by have:=zdt (N:=N) (tail:=zG s.uC) (fl:=flS s) hbl (nD (zav s.uC) (by omega)) N 0 0 true (by omega) (by have:=zav s.uC;omega) hw;rw[nS,nS]at this;exact this
  have hne:dgs (flS s) true (edBody s.uC) b≠[]:=by intro e;rw[e]at g2;have g2:0=n:=g2;omega
  have hnew:∀neg,zcN N neg (dgs (flS s) true (edBody s.uC) b) s.uB=some (gD neg (zdz s b) sc,0):=fun neg=>by rw[zbQ hN _ g1 hne (by omega) (by rw[h.scl];omega) (by rw[h.scl];omega),h.scl,zwx g1 g2 h1 (by omega) (by omega)];rfl
  rw[if_pos hl,if_neg (fun e=>e hl),zts (by omega) hp,zc,hdg,zc,hnew,zc];dsimp only;obtain⟨r,e1,e2⟩:=zoh hN h false g3;obtain⟨r',e1',e2'⟩:=zoh hN h true g3;rw[decide_eq_true rfl,cond_true,e2,zc,hnew,e1,e1'];unfold zaI;rw[zc,zb];by_cases hr:r=b
  ·rw[if_pos hr,if_pos (by rw[hr])]
  ·rw[if_neg hr,if_neg (fun e=>hr (Option.some.inj e)),zc];dsimp only;rw[decide_eq_true rfl,cond_true,e2',zc,zc,zb];by_cases hr':r'=b
   ·rw[if_pos hr',if_pos (by rw[hr'])]
   ·rw[if_neg hr',if_neg (fun e=>hr' (Option.some.inj e))];rfl
 ·rw[if_neg hl,if_pos hl];rfl
end Go.Proofs.C06
end
section
set_option maxRecDepth 100000
namespace Go.Proofs.C06
open Go Go.RowKit Go.Vc Go.Am Go.Dg
theorem zup{s:Shape}(h:chkV s=0)(h0:s.uD≠0):s.uG=sizeV s:=by
 unfold chkV at h;by_cases hE:ZC s=0
 ·rw[if_neg (fun h=>h hE),if_neg h0]at h;unfold zfj at h;by_cases h1:(yd s.uC).2=0
  ·rw[if_neg (fun h=>h h1)]at h;split at h
   ·cases h
   ·exact (W8 h).2.2
  ·rw[if_pos h1]at h;exact absurd h h1
 ·rw[if_pos hE]at h;exact absurd h hE
end Go.Proofs.C06
end
section
set_option maxRecDepth 100000
namespace Go.Proofs.C06
open Go Go.RowKit Go.Vc Go.Am Go.Dg
theorem zfw{N:Nat}(c:UInt8){m:Nat}(hm:m<=2000):∀(k i:Nat)(out:uBp),i<=m->m-i<k->out=List.replicate i c->zbu N k [c] (m:Int) out (i:Int)=some (List.replicate m c)
 |0,i,out,hi,h,_=>by omega
 |k+1,i,out,hi,h,ho=>by
  show zcw N (zbu N k) [c] (m:Int) out (i:Int)=_;unfold zcw;rw[zb];by_cases hlt:i<m
  ·rw[if_pos (by omega),QN.2 (by rw[ho];simp;omega),za,zh (by omega) (by omega),za,show(i:Int)+1=((i+1:Nat):Int)by omega];refine zfw c hm k (i+1) _ (by omega) (by omega) ?_;rw[ho,<-List.replicate_succ']
  ·have:i=m:=by omega
   rw[if_neg (by omega),ho,this]
theorem zjp{N:Nat}(hN:3000<N)(c:UInt8){m:Nat}(hm:m<=2000):znP N [c] (m:Int)=some (List.replicate m c):=
 zfw c hm N 0 [] (by omega) (by omega) rfl
def lsg(c:UInt8)(neg:Bool):UInt8:=if c=36 then 36 else zus c neg
def atL(fl:UInt8):Bool->uBp->uBp->uBp
 |_,[],_=>[]
 |f,c::r,ds=>if c=fl/\f=false then 0::atL fl true r ds else if dig fl c=true then ds.headD 0::atL fl f r ds.tail else 0::atL fl f r ds
def Yf(P:UInt8->Bool)(fl:UInt8):Bool->uBp->Bool
 |_,[]=>true
 |f,c::r=>if c=fl/\f=false then Yf P fl true r else if dig fl c=true then P c&&Yf P fl f r else Yf P fl f r
def z48(ds:uBp):Bool:=ds.all fun d=>decide (d=48)
def isZ(fl c:UInt8):Bool:=decide (c=90)||decide (c=fl)
def isS(c:UInt8):Bool:=decide (c=42)
end Go.Proofs.C06
end
section
set_option maxRecDepth 100000
namespace Go.Proofs.C06
open Go Go.RowKit Go.Vc Go.Am Go.Dg
def nb(fl c:UInt8):Bool:=!(decide (c=90)||decide (c=42)||decide (c=fl)||decide (c=46)||decide (c=86)||decide (c=57))
def stp(c:UInt8):Bool:=decide (c=46)||decide (c=86)||decide (c=57)
def md(x:UInt8×UInt8):Bool:=!stp x.1&&(decide (x.2=0)||decide (x.2=48))
def bgV(fl:UInt8)(p:uBp):Nat:=(p.takeWhile (nb fl)).length
def enV(p a:uBp)(e:Nat):Nat:=e+(((p.drop e).zip (a.drop e)).takeWhile md).length
def chC(fl:UInt8)(star neg zs:Bool)(bg en i:Nat)(c a:UInt8):uBp:=if c=86 then[]else if zs=true/\c≠46 then[42]else if(bg<=i/\i<en)/\star=true then[42]else if(bg<=i/\i<en)/\fl≠0/\i+1=en then[lsg fl neg]else if(bg<=i/\i<en)\/c=66 then[32]else if a≠0 then[a]else if c=43\/c=45 then[lsg c neg]else[c]
def outL(fl:UInt8)(star neg zs:Bool)(bg en:Nat):Nat->uBp->uBp->uBp
 |_,[],_=>[]
 |i,c::r,a=>chC fl star neg zs bg en i c (a.headD 0)++outL fl star neg zs bg en (i+1) r a.tail
def zl6(neg zs:Bool)(tail:uBp):uBp:=if zs=true then List.replicate tail.length 42 else if neg=true then tail else List.replicate tail.length 32
end Go.Proofs.C06
end
section
set_option maxRecDepth 100000
namespace Go.Proofs.C06
open Go Go.RowKit Go.Vc Go.Am Go.Dg
def JJ(fl:UInt8)(p a:uBp):Nat×Nat:=if bgV fl p<p.length/\stp (p.getD (bgV fl p) 0)=true then(p.length,p.length)else(bgV fl p,enV p a (bgV fl p))
theorem Wm(fl:UInt8):∀(f:Bool)(p ds:uBp),(atL fl f p ds).length=p.length
 |_,[],_=>rfl
 |f,c::r,ds=>by
  unfold atL;split
  ·rw[mI,mI,Wm fl true r ds]
  ·split
   ·rw[mI,mI,Wm fl f r _]
   ·rw[mI,mI,Wm fl f r ds]
def Ka(s:Shape)(ds:uBp)(neg:Bool):uBp:=if z48 (ds.take (need (flS s) false (edBody s.uC)))=true/\(s.uJ=true\/Yf (isZ (flS s)) (flS s) false (edBody s.uC)=true)then List.replicate s.uG.toNat 32 else outL (flS s) ((edBody s.uC).contains 42) neg (z48 (ds.take (need (flS s) false (edBody s.uC)))&&Yf isS (flS s) false (edBody s.uC)) (JJ (flS s) (edBody s.uC) (atL (flS s) false (edBody s.uC) ds)).1 (JJ (flS s) (edBody s.uC) (atL (flS s) false (edBody s.uC) ds)).2 0 (edBody s.uC) (atL (flS s) false (edBody s.uC) ds)++zl6 neg (z48 (ds.take (need (flS s) false (edBody s.uC)))&&Yf isS (flS s) false (edBody s.uC)) (zG s.uC)
end Go.Proofs.C06
end
