/-
  A part of the proof of the laws on moves.
-/
import Derived.Test.YtpghlpmkljkakaaGreatDoorEc
import Derived.Test.YtpghlpmkljkakaaGreatDoorEa
section
set_option maxRecDepth 100000
namespace Go.Proofs.C06
open Go Go.RowKit Go.Vc Go.Am Go.Dg
def clnD(d:UInt8):UInt8:=if 48≤d.toNat∧d.toNat≤57 then d else 48
def dgs(fl:UInt8):Bool→List UInt8→List UInt8→List UInt8
 |_,[],_=>[]
 |f,c::r,bs=>if c=86 then dgs fl f r bs else if dig fl c=true then(if c=fl∧f=true then dgs fl false r bs.tail else clnD (bs.headD 0)::dgs fl f r bs.tail)else dgs fl f r bs.tail
theorem zri(d:UInt8):48≤(clnD d).toNat∧(clnD d).toNat≤57:=by
 unfold clnD;split
 ·assumption
 ·decide
theorem Kd(fl:UInt8):∀(f:Bool)(r bs:List UInt8),Digs (dgs fl f r bs)
 |_,[],_=>Digs.nil
 |f,c::r,bs=>by
  unfold dgs;split
  ·exact Kd fl f r bs
  ·split
   ·split
    ·exact Kd fl false r _
    ·exact Digs.cons.2 ⟨zri _,Kd fl f r _⟩
   ·exact Kd fl f r _
theorem K2{fl:UInt8}(hf:fl≠86):∀(f:Bool)(r bs:List UInt8),(dgs fl f r bs).length=need fl (!f) r
 |_,[],_=>rfl
 |f,c::r,bs=>by
  unfold dgs need;by_cases h:c=86
  ·subst h;rw[if_pos rfl,if_neg (by unfold dig;simp;exact fun e=>hf e.symm),K2 hf f r bs]
  ·rw[if_neg h];by_cases hd:dig fl c=true
   ·rw[if_pos hd,if_pos hd];cases f
    ·rw[if_neg (by rintro⟨_,e⟩;cases e),if_neg (by rintro⟨_,e⟩;cases e),List.length_cons,K2 hf false r]
    ·by_cases hc:c=fl
     ·rw[if_pos ⟨hc,rfl⟩,if_pos ⟨hc,rfl⟩,K2 hf false r];rfl
     ·rw[if_neg (fun e=>hc e.1),if_neg (fun e=>hc e.1),List.length_cons,K2 hf true r]
   ·rw[if_neg hd,if_neg hd,K2 hf f r]
def wide(r:List UInt8):Nat:=r.countP fun c=>!decide (c=86)
theorem zbc(c:UInt8)(r:List UInt8):wide (c::r)=(if c=86 then 0 else 1)+wide r:=by
 unfold wide;rw[List.countP_cons];by_cases h:c=86
 ·rw[if_pos h,if_neg (by simp[h])];omega
 ·rw[if_neg h,if_pos (by simp[h])];omega
theorem zpx(a b:List UInt8):wide (a++b)=wide a+wide b:=List.countP_append
theorem zrF(r:List UInt8):wide r≤r.length:=List.countP_le_length
theorem zjf(p:List UInt8):szN p=wide p:=by
 unfold szN;induction p with
 |nil=>rfl
 |cons c r ih=>
  rw[zbc,List.length_cons,List.count_cons,←ih];have:=List.count_le_length (a:=(86:UInt8)) (l:=r);by_cases h:c=86
  ·simp[h]
  ·simp[h];omega
theorem zgP{b:List UInt8}{i:Nat}(h:i<b.length):(b.drop i).headD 0=b.getD i 0∧(b.drop i).tail=b.drop (i+1):=by rw[zC h];exact⟨rfl,rfl⟩
section
variable {N : Nat} {b body tail : List UInt8} {fl : UInt8} (hb : b.length ≤ 1000) (hbd : body.length ≤ 1000)
include hb hbd
theorem zcu:∀(k i at_:Nat)(f:Bool)(out:List UInt8),i≤body.length→body.length-i<k→at_+wide (body.drop i)≤b.length→out.length≤i→
  zV N k (.inr (b,f,(at_:Int),(body.length:Int),(i:Int),picture.mk body tail (fl.toNat:Int),out))=some (out++dgs fl f (body.drop i) (b.drop at_))
 |0,i,at_,f,out,hi,h,_,_=>by omega
 |k+1,i,at_,f,out,hi,h,hw,ho=>by
  show Yg N (zV N k) b f (at_:Int) (body.length:Int) (i:Int) (picture.mk body tail (fl.toNat:Int)) out=_;unfold Yg;rw[zb];by_cases hlt:i<body.length
  ·have hdr:body.drop i=body.getD i 0::body.drop (i+1):=zC hlt;rw[hdr,zbc]at hw;have e86:((body.getD i 0).toNat:Int)=86↔body.getD i 0=86:=qK _ 86 (by decide);have hby:byteAt body (i:Int)=((body.getD i 0).toNat:Int):=rfl;have hi1:(i:Int)+1=((i+1:Nat):Int):=by omega
   have ix:zj (i:Int) body.length=true:=zn.2 ⟨by omega,by omega⟩;have go:=fun(at_:Nat)(f:Bool)(out:List UInt8) hw ho=>zcu k (i+1) at_ f out (by omega) (by omega) hw ho
   dsimp only;rw[if_pos (by omega),ix,za,hby,hdr,dgs,zb];generalize body.getD i 0=c at*
   by_cases h86:c=86
   ·rw[if_pos h86]at hw;rw[if_pos (e86.2 h86),if_pos h86,zg (by omega) (by omega),za,hi1];exact go at_ f out (by omega) (by omega)
   ·rw[if_neg h86]at hw;have hat:at_<b.length:=by omega
    have ia:zj (at_:Int) b.length=true:=zn.2 ⟨by omega,by omega⟩;have ha1:(at_:Int)+1=((at_+1:Nat):Int):=by omega
    have hba:byteAt b (at_:Int)=((b.getD at_ 0).toNat:Int):=rfl;obtain⟨d1,d2⟩:=zgP hat;rw[if_neg (fun e=>h86 (e86.1 e)),if_neg h86,ia,za,zg (by omega) (by omega),za,YW,zc,hba,d1,d2,ha1];generalize b.getD at_ 0=d;have k1:∀t:Bool,t=decide (c=fl∧f=true)→qy N (zV N k) b f ((at_+1:Nat):Int) (d.toNat:Int) (body.length:Int) (i:Int) t (picture.mk body tail (fl.toNat:Int)) out=
      some (out++if c=fl∧f=true then dgs fl false (body.drop (i+1)) (b.drop (at_+1))else clnD d::dgs fl f (body.drop (i+1)) (b.drop (at_+1))):=by
     rintro t rfl;unfold qy;rw[zb];by_cases hf:c=fl∧f=true
     ·rw[if_pos hf,if_pos hf,zg (by omega) (by omega),za,hi1];exact go (at_+1) false out (by omega) (by omega)
     ·rw[if_neg hf,if_neg hf];have fin:∀x:UInt8,x=clnD d→zV N k (.inr (b,f,((at_+1:Nat):Int),(body.length:Int),((i+1:Nat):Int),picture.mk body tail (fl.toNat:Int),out++[x]))=
        some (out++clnD d::dgs fl f (body.drop (i+1)) (b.drop (at_+1))):=by
       rintro x rfl;rw[go (at_+1) f _ (by omega) (by simp;omega),List.append_assoc];rfl
      rw[zb];have e48:([48]:List Int).map toByte=[48]:=rfl;by_cases h1:d.toNat<48
      ·rw[if_pos (by omega),e48,jB (by simp;omega),za,zg (by omega) (by omega),za,hi1];exact fin 48 (by unfold clnD;rw[if_neg (by omega)])
      ·rw[if_neg (by omega),zb];by_cases h2:57<d.toNat
       ·rw[if_pos (by omega),e48,jB (by simp;omega),za,zg (by omega) (by omega),za,hi1];exact fin 48 (by unfold clnD;rw[if_neg (by omega)])
       ·rw[if_neg (by omega),ju,Bool.and_true,za,List.map_singleton,jr,jB (by simp;omega),za,zg (by omega) (by omega),za,hi1];exact fin d (by unfold clnD;rw[if_pos (by omega)])
    cases hd:dig fl c with
    |false=>rw[Bool.not_false,cond_true,if_neg (by decide),zg (by omega) (by omega),za,hi1];exact go (at_+1) f out (by omega) (by omega)
    |true=>
     rw[Bool.not_true,cond_false,if_pos rfl,zb];by_cases hc:c=fl
     ·rw[if_pos (by rw[hc])];exact k1 f (by simp[hc])
     ·rw[if_neg (fun e=>hc (UInt8.toNat_inj.1 (by omega)))];exact k1 false (by simp[hc])
  ·rw[if_neg (by omega),List.drop_eq_nil_of_le (by omega)];simp[dgs]
theorem zcv:∀(k i at_:Nat)(f:Bool),i≤body.length→body.length-i<k→at_+wide (body.drop i)≤b.length→
  zV N k (.inl (b,f,(at_:Int),(body.length:Int),(i:Int),picture.mk body tail (fl.toNat:Int)))=some (dgs fl f (body.drop i) (b.drop at_))
 |0,i,at_,f,hi,h,_=>by omega
 |k+1,i,at_,f,hi,h,hw=>by
  show Yh N (zV N k) b f (at_:Int) (body.length:Int) (i:Int) (picture.mk body tail (fl.toNat:Int))=_;unfold Yh;rw[zb];by_cases hlt:i<body.length
  ·have hdr:body.drop i=body.getD i 0::body.drop (i+1):=zC hlt;rw[hdr,zbc]at hw;have e86:((body.getD i 0).toNat:Int)=86↔body.getD i 0=86:=qK _ 86 (by decide);have hby:byteAt body (i:Int)=((body.getD i 0).toNat:Int):=rfl;have hi1:(i:Int)+1=((i+1:Nat):Int):=by omega
   have ix:zj (i:Int) body.length=true:=zn.2 ⟨by omega,by omega⟩;have go:=fun(at_:Nat)(f:Bool) hw=>zcv k (i+1) at_ f (by omega) (by omega) hw
   have go2:=fun(at_:Nat)(f:Bool)(out:List UInt8) hw ho=>zcu (N:=N) (tail:=tail) (fl:=fl) hb hbd k (i+1) at_ f out (by omega) (by omega) hw ho
   dsimp only;rw[if_pos (by omega),ix,za,hby,hdr,dgs,zb];generalize body.getD i 0=c at*
   by_cases h86:c=86
   ·rw[if_pos h86]at hw;rw[if_pos (e86.2 h86),if_pos h86,zg (by omega) (by omega),za,hi1];exact go at_ f (by omega)
   ·rw[if_neg h86]at hw;have hat:at_<b.length:=by omega
    have ia:zj (at_:Int) b.length=true:=zn.2 ⟨by omega,by omega⟩;have ha1:(at_:Int)+1=((at_+1:Nat):Int):=by omega
    have hba:byteAt b (at_:Int)=((b.getD at_ 0).toNat:Int):=rfl;obtain⟨d1,d2⟩:=zgP hat;rw[if_neg (fun e=>h86 (e86.1 e)),if_neg h86,ia,za,zg (by omega) (by omega),za,YW,zc,hba,d1,d2,ha1];generalize b.getD at_ 0=d;have k1:∀t:Bool,t=decide (c=fl∧f=true)→Jy N (zV N k) b f ((at_+1:Nat):Int) (d.toNat:Int) (body.length:Int) (i:Int) t (picture.mk body tail (fl.toNat:Int))=
      some (if c=fl∧f=true then dgs fl false (body.drop (i+1)) (b.drop (at_+1))else clnD d::dgs fl f (body.drop (i+1)) (b.drop (at_+1))):=by
     rintro t rfl;unfold Jy;rw[zb];by_cases hf:c=fl∧f=true
     ·rw[if_pos hf,if_pos hf,zg (by omega) (by omega),za,hi1];exact go (at_+1) false (by omega)
     ·rw[if_neg hf,if_neg hf];have fin:∀x:UInt8,x=clnD d→zV N k (.inr (b,f,((at_+1:Nat):Int),(body.length:Int),((i+1:Nat):Int),picture.mk body tail (fl.toNat:Int),[]++[x]))=
        some (clnD d::dgs fl f (body.drop (i+1)) (b.drop (at_+1))):=by
       rintro x rfl;rw[go2 (at_+1) f _ (by omega) (by simp)];rfl
      rw[zb];have e48:([48]:List Int).map toByte=[48]:=rfl;by_cases h1:d.toNat<48
      ·rw[if_pos (by omega),e48,jB (by simp),za,zg (by omega) (by omega),za,hi1];exact fin 48 (by unfold clnD;rw[if_neg (by omega)])
      ·rw[if_neg (by omega),zb];by_cases h2:57<d.toNat
       ·rw[if_pos (by omega),e48,jB (by simp),za,zg (by omega) (by omega),za,hi1];exact fin 48 (by unfold clnD;rw[if_neg (by omega)])
       ·rw[if_neg (by omega),ju,Bool.and_true,za,List.map_singleton,jr,jB (by simp),za,zg (by omega) (by omega),za,hi1];exact fin d (by unfold clnD;rw[if_pos (by omega)])
    cases hd:dig fl c with
    |false=>rw[Bool.not_false,cond_true,if_neg (by decide),zg (by omega) (by omega),za,hi1];exact go (at_+1) f (by omega)
    |true=>
     rw[Bool.not_true,cond_false,if_pos rfl,zb];by_cases hc:c=fl
     ·rw[if_pos (by rw[hc])];exact k1 f (by simp[hc])
     ·rw[if_neg (fun e=>hc (UInt8.toNat_inj.1 (by omega)))];exact k1 false (by simp[hc])
  ·rw[if_neg (by omega),List.drop_eq_nil_of_le (by omega)];simp[dgs]
end
def zgZ(s:Shape)(b:List UInt8):Nat:=val (dgs (flS s) true (edBody s.Picture) b)
def zgY(s:Shape)(n sc:Nat)(b:List UInt8):Decimal×Int:=if(b.length:Int)≠s.Size then(zdo,5)else if edT s n false (zgZ s b)=some b then(gD false (zgZ s b) sc,0)else if edT s n true (zgZ s b)=some b then(gD true (zgZ s b) sc,0)else(zdo,15)
theorem zkV{s:Shape}{n sc:Nat}{sg:Bool}(h:ES s n sc sg)(b:List UInt8):Digs (dgs (flS s) true (edBody s.Picture) b)∧(dgs (flS s) true (edBody s.Picture) b).length=n∧zgZ s b<10^n:=by
 have h1:=Kd (flS s) true (edBody s.Picture) b;have h2:(dgs (flS s) true (edBody s.Picture) b).length=n:=by rw[K2 (show flS s≠86 from zeS _)];exact zkr h.ed
 exact⟨h1,h2,h2▸jP h1⟩
theorem ztk{neg:Bool}{l:List UInt8}{n sc:Nat}(hd:Digs l)(hl:l.length=n)(h1:1≤n)(h2:n≤62)(hs:sc≤62):nrm neg l (sc:Int)=(gD neg (val l) sc,0):=by
 have e0:(-(sc:Int)).toNat=0:=by omega
 have hlt:val l<10^n:=hl▸jP hd;rw[VV,e0,Nat.pow_zero,Nat.mul_one,Int.toNat_natCast]
 ·rfl
 ·rw[e0,Nat.pow_zero,Nat.mul_one];exact Nat.le_trans (jY h1 hlt) h2
 ·exact Nat.le_trans (zF _ _ _) (by omega)
def zt7(s:Shape)(b:List UInt8):Field:=Field.mk s.Category s.Usage s.Picture s.Digits s.Scale s.Signed s.Leading s.Separate s.Just s.Blank s.Size b
theorem zrE{N:Nat}(hN:3000<N){s:Shape}{n sc:Nat}{sg:Bool}(h:ES s n sc sg)(hc:chkV s=0)(b:List UInt8):znT N (zt7 s b)=some (zgY s n sc b):=by
 have h18:=h.n18;have h1:=h.n1;have h2:=h.scn;have hp:s.Picture.length≤400:=by have:=h.len;omega
 have hk:Xh s 5=0:=by unfold Xh;rw[if_neg (fun e=>e hc),if_neg (fun e=>e h.cat)]
 unfold znT zgY;show bnd (ze1 N s 5) (fun rr=>cond (!decide (rr=0)) _ (cond (!decide (((b.length:Nat):Int)=s.Size)) _ (bnd (eOf N s) fun rr1=>bnd (zdh N rr1 b) fun rr2=>bnd (zbT N false rr2 s.Scale) fun rr3=>cond (decide (rr3.2=0)) (bnd (Vz N rr3.1 s) fun rr4=>bnd (WC N rr4 b) fun rr5=>cond rr5 _ (bnd (zbT N true rr2 s.Scale) fun rr6=>cond (decide (rr6.2=0)) (bnd (Vz N rr6.1 s) fun rr7=>bnd (WC N rr7 b) _) _)) _)))=_;rw[ze0 (by omega) hp,hk,zc,zf,if_pos rfl,zf];by_cases hl:(b.length:Int)=s.Size
 ·obtain⟨g1,g2,g3⟩:=zkV h b;have hsz:=h.siz;have hlen:=h.len;have hw:0+wide ((edBody s.Picture).drop 0)≤b.length:=by have e:s.Picture=_:=zpd s.Picture;rw[zjf,e,zpx]at hsz;rw[List.drop_zero];omega
  have hbl:b.length≤1000:=by rw[zjf]at hsz;have:=zrF s.Picture;omega
  have hdg:zdh N (zjy s) b=some (dgs (flS s) true (edBody s.Picture) b):=by have:=zcv (N:=N) (tail:=jU s.Picture) (fl:=flS s) hbl (Nat.le_trans (Wo s.Picture) (by omega)) N 0 0 true (by omega) (by have:=Wo s.Picture;omega) hw;rw[List.drop_zero,List.drop_zero]at this;exact this
  have hne:dgs (flS s) true (edBody s.Picture) b≠[]:=by intro e;rw[e]at g2;have g2:0=n:=g2;omega
  have hnew:∀neg,zbT N neg (dgs (flS s) true (edBody s.Picture) b) s.Scale=some (gD neg (zgZ s b) sc,0):=fun neg=>by rw[zaS hN _ g1 hne (by omega) (by rw[h.scl];omega) (by rw[h.scl];omega),h.scl,ztk g1 g2 h1 (by omega) (by omega)];rfl
  rw[if_pos hl,if_neg (fun e=>e hl),zqY (by omega) hp,zc,hdg,zc,hnew,zc];dsimp only;obtain⟨r,e1,e2⟩:=zmq hN h false g3;obtain⟨r',e1',e2'⟩:=zmq hN h true g3;rw[decide_eq_true rfl,cond_true,e2,zc,hnew,e1,e1'];unfold WC;rw[zc,zb];by_cases hr:r=b
  ·rw[if_pos hr,if_pos (by rw[hr])]
  ·rw[if_neg hr,if_neg (fun e=>hr (Option.some.inj e)),zc];dsimp only;rw[decide_eq_true rfl,cond_true,e2',zc,zc,zb];by_cases hr':r'=b
   ·rw[if_pos hr',if_pos (by rw[hr'])]
   ·rw[if_neg hr',if_neg (fun e=>hr' (Option.some.inj e))];rfl
 ·rw[if_neg hl,if_pos hl];rfl
end Go.Proofs.C06
end
section
set_option maxRecDepth 100000
namespace Go.Proofs.C06
open Go Go.RowKit Go.Vc Go.Am Go.Dg
theorem zrQ{s:Shape}(h:chkV s=0)(h0:s.Category≠0):s.Size=sizeV s:=by
 unfold chkV at h;by_cases hE:yE s=0
 ·rw[if_neg (fun h=>h hE),if_neg h0]at h;unfold zcM at h;by_cases h1:(jR s.Picture).2=0
  ·rw[if_neg (fun h=>h h1)]at h;split at h
   ·cases h
   ·exact (VN h).2.2
  ·rw[if_pos h1]at h;exact absurd h h1
 ·rw[if_pos hE]at h;exact absurd h hE
end Go.Proofs.C06
end
