/-
  A part of the proof of the laws on moves.
-/
import Derived.Test.YtpghlpmkljkakaaGreatDoorEc
import Derived.Test.YtpghlpmkljkakaaGreatDoorEa
section
set_option maxRecDepth 100000
namespace Go.Proofs.C06
open Go Go.RowKit Go.Vc Go.Am Go.Dg
def clnD(d:UInt8):UInt8:=if 48≤d.toNat∧d.toNat≤57 then d else 48
def dgs(fl:UInt8):Bool→List UInt8→List UInt8→List UInt8
 |_,[],_=>[]
 |f,c::r,bs=>if c=86 then dgs fl f r bs else if dig fl c=true then(if c=fl∧f=true then dgs fl false r bs.tail else clnD (bs.headD 0)::dgs fl f r bs.tail)else dgs fl f r bs.tail
theorem zr0(d:UInt8):48≤(clnD d).toNat∧(clnD d).toNat≤57:=by
 unfold clnD;split
 ·assumption
 ·decide
theorem Ki(fl:UInt8):∀(f:Bool)(r bs:List UInt8),Digs (dgs fl f r bs)
 |_,[],_=>Digs.nil
 |f,c::r,bs=>by
  unfold dgs;split
  ·exact Ki fl f r bs
  ·split
   ·split
    ·exact Ki fl false r _
    ·exact Digs.cons.2 ⟨zr0 _,Ki fl f r _⟩
   ·exact Ki fl f r _
theorem Vg{fl:UInt8}(hf:fl≠86):∀(f:Bool)(r bs:List UInt8),(dgs fl f r bs).length=need fl (!f) r
 |_,[],_=>rfl
 |f,c::r,bs=>by
  unfold dgs need;by_cases h:c=86
  ·subst h;rw[if_pos rfl,if_neg (by unfold dig;simp;exact fun e=>hf e.symm),Vg hf f r bs]
  ·rw[if_neg h];by_cases hd:dig fl c=true
   ·rw[if_pos hd,if_pos hd];cases f
    ·rw[if_neg (by rintro⟨_,e⟩;cases e),if_neg (by rintro⟨_,e⟩;cases e),List.length_cons,Vg hf false r]
    ·by_cases hc:c=fl
     ·rw[if_pos ⟨hc,rfl⟩,if_pos ⟨hc,rfl⟩,Vg hf false r];rfl
     ·rw[if_neg (fun e=>hc e.1),if_neg (fun e=>hc e.1),List.length_cons,Vg hf true r]
   ·rw[if_neg hd,if_neg hd,Vg hf f r]
def wide(r:List UInt8):Nat:=r.countP fun c=>!decide (c=86)
theorem KI(c:UInt8)(r:List UInt8):wide (c::r)=(if c=86 then 0 else 1)+wide r:=by
 unfold wide;rw[List.countP_cons];by_cases h:c=86
 ·rw[if_pos h,if_neg (by simp[h])];omega
 ·rw[if_neg h,if_pos (by simp[h])];omega
theorem zjt(a b:List UInt8):wide (a++b)=wide a+wide b:=List.countP_append
theorem zsn(r:List UInt8):wide r≤r.length:=List.countP_le_length
theorem zaf(p:List UInt8):szN p=wide p:=by
 unfold szN;induction p with
 |nil=>rfl
 |cons c r ih=>
  rw[KI,List.length_cons,List.count_cons,←ih];have:=List.count_le_length (a:=(86:UInt8)) (l:=r);by_cases h:c=86
  ·simp[h]
  ·simp[h];omega
theorem zhq{b:List UInt8}{i:Nat}(h:i<b.length):(b.drop i).headD 0=b.getD i 0∧(b.drop i).tail=b.drop (i+1):=by rw[zC h];exact⟨rfl,rfl⟩
section
variable {N : Nat} {b body tail : List UInt8} {fl : UInt8} (hb : b.length ≤ 1000) (hbd : body.length ≤ 1000)
include hb hbd
theorem zcP:∀(k i at_:Nat)(f:Bool)(out:List UInt8),i≤body.length→body.length-i<k→at_+wide (body.drop i)≤b.length→out.length≤i→
  zW N k (.inr (b,f,(at_:Int),(body.length:Int),(i:Int),picture.mk body tail (fl.toNat:Int),out))=some (out++dgs fl f (body.drop i) (b.drop at_))
 |0,i,at_,f,out,hi,h,_,_=>by omega
 |k+1,i,at_,f,out,hi,h,hw,ho=>by
  show Yi N (zW N k) b f (at_:Int) (body.length:Int) (i:Int) (picture.mk body tail (fl.toNat:Int)) out=_;unfold Yi;rw[zb];by_cases hlt:i<body.length
  ·have hdr:body.drop i=body.getD i 0::body.drop (i+1):=zC hlt;rw[hdr,KI]at hw;have e86:((body.getD i 0).toNat:Int)=86↔body.getD i 0=86:=Zf _ 86 (by decide);have hby:byteAt body (i:Int)=((body.getD i 0).toNat:Int):=rfl;have hi1:(i:Int)+1=((i+1:Nat):Int):=by omega
   have ix:inIx (i:Int) body.length=true:=zm.2 ⟨by omega,by omega⟩;have go:=fun(at_:Nat)(f:Bool)(out:List UInt8) hw ho=>zcP k (i+1) at_ f out (by omega) (by omega) hw ho
   dsimp only;rw[if_pos (by omega),ix,za,hby,hdr,dgs,zb];generalize body.getD i 0=c at*
   by_cases h86:c=86
   ·rw[if_pos h86]at hw;rw[if_pos (e86.2 h86),if_pos h86,zg (by omega) (by omega),za,hi1];exact go at_ f out (by omega) (by omega)
   ·rw[if_neg h86]at hw;have hat:at_<b.length:=by omega
    have ia:inIx (at_:Int) b.length=true:=zm.2 ⟨by omega,by omega⟩;have ha1:(at_:Int)+1=((at_+1:Nat):Int):=by omega
    have hba:byteAt b (at_:Int)=((b.getD at_ 0).toNat:Int):=rfl;obtain⟨d1,d2⟩:=zhq hat;rw[if_neg (fun e=>h86 (e86.1 e)),if_neg h86,ia,za,zg (by omega) (by omega),za,Y2,zc,hba,d1,d2,ha1];generalize b.getD at_ 0=d;have k1:∀t:Bool,t=decide (c=fl∧f=true)→qz N (zW N k) b f ((at_+1:Nat):Int) (d.toNat:Int) (body.length:Int) (i:Int) t (picture.mk body tail (fl.toNat:Int)) out=
      some (out++if c=fl∧f=true then dgs fl false (body.drop (i+1)) (b.drop (at_+1))else clnD d::dgs fl f (body.drop (i+1)) (b.drop (at_+1))):=by
     rintro t rfl;unfold qz;rw[zb];by_cases hf:c=fl∧f=true
     ·rw[if_pos hf,if_pos hf,zg (by omega) (by omega),za,hi1];exact go (at_+1) false out (by omega) (by omega)
     ·rw[if_neg hf,if_neg hf];have fin:∀x:UInt8,x=clnD d→zW N k (.inr (b,f,((at_+1:Nat):Int),(body.length:Int),((i+1:Nat):Int),picture.mk body tail (fl.toNat:Int),out++[x]))=
        some (out++clnD d::dgs fl f (body.drop (i+1)) (b.drop (at_+1))):=by
       rintro x rfl;rw[go (at_+1) f _ (by omega) (by simp;omega),List.append_assoc];rfl
      rw[zb];have e48:([48]:List Int).map toByte=[48]:=rfl;by_cases h1:d.toNat<48
      ·rw[if_pos (by omega),e48,jA (by simp;omega),za,zg (by omega) (by omega),za,hi1];exact fin 48 (by unfold clnD;rw[if_neg (by omega)])
      ·rw[if_neg (by omega),zb];by_cases h2:57<d.toNat
       ·rw[if_pos (by omega),e48,jA (by simp;omega),za,zg (by omega) (by omega),za,hi1];exact fin 48 (by unfold clnD;rw[if_neg (by omega)])
       ·rw[if_neg (by omega),jL,Bool.and_true,za,List.map_singleton,jv,jA (by simp;omega),za,zg (by omega) (by omega),za,hi1];exact fin d (by unfold clnD;rw[if_pos (by omega)])
    cases hd:dig fl c with
    |false=>rw[Bool.not_false,cond_true,if_neg (by decide),zg (by omega) (by omega),za,hi1];exact go (at_+1) f out (by omega) (by omega)
    |true=>
     rw[Bool.not_true,cond_false,if_pos rfl,zb];by_cases hc:c=fl
     ·rw[if_pos (by rw[hc])];exact k1 f (by simp[hc])
     ·rw[if_neg (fun e=>hc (UInt8.toNat_inj.1 (by omega)))];exact k1 false (by simp[hc])
  ·rw[if_neg (by omega),List.drop_eq_nil_of_le (by omega)];simp[dgs]
theorem zcQ:∀(k i at_:Nat)(f:Bool),i≤body.length→body.length-i<k→at_+wide (body.drop i)≤b.length→
  zW N k (.inl (b,f,(at_:Int),(body.length:Int),(i:Int),picture.mk body tail (fl.toNat:Int)))=some (dgs fl f (body.drop i) (b.drop at_))
 |0,i,at_,f,hi,h,_=>by omega
 |k+1,i,at_,f,hi,h,hw=>by
  show Yj N (zW N k) b f (at_:Int) (body.length:Int) (i:Int) (picture.mk body tail (fl.toNat:Int))=_;unfold Yj;rw[zb];by_cases hlt:i<body.length
  ·have hdr:body.drop i=body.getD i 0::body.drop (i+1):=zC hlt;rw[hdr,KI]at hw;have e86:((body.getD i 0).toNat:Int)=86↔body.getD i 0=86:=Zf _ 86 (by decide);have hby:byteAt body (i:Int)=((body.getD i 0).toNat:Int):=rfl;have hi1:(i:Int)+1=((i+1:Nat):Int):=by omega
   have ix:inIx (i:Int) body.length=true:=zm.2 ⟨by omega,by omega⟩;have go:=fun(at_:Nat)(f:Bool) hw=>zcQ k (i+1) at_ f (by omega) (by omega) hw
   have go2:=fun(at_:Nat)(f:Bool)(out:List UInt8) hw ho=>zcP (N:=N) (tail:=tail) (fl:=fl) hb hbd k (i+1) at_ f out (by omega) (by omega) hw ho
   dsimp only;rw[if_pos (by omega),ix,za,hby,hdr,dgs,zb];generalize body.getD i 0=c at*
   by_cases h86:c=86
   ·rw[if_pos h86]at hw;rw[if_pos (e86.2 h86),if_pos h86,zg (by omega) (by omega),za,hi1];exact go at_ f (by omega)
   ·rw[if_neg h86]at hw;have hat:at_<b.length:=by omega
    have ia:inIx (at_:Int) b.length=true:=zm.2 ⟨by omega,by omega⟩;have ha1:(at_:Int)+1=((at_+1:Nat):Int):=by omega
    have hba:byteAt b (at_:Int)=((b.getD at_ 0).toNat:Int):=rfl;obtain⟨d1,d2⟩:=zhq hat;rw[if_neg (fun e=>h86 (e86.1 e)),if_neg h86,ia,za,zg (by omega) (by omega),za,Y2,zc,hba,d1,d2,ha1];generalize b.getD at_ 0=d;have k1:∀t:Bool,t=decide (c=fl∧f=true)→JC N (zW N k) b f ((at_+1:Nat):Int) (d.toNat:Int) (body.length:Int) (i:Int) t (picture.mk body tail (fl.toNat:Int))=
      some (if c=fl∧f=true then dgs fl false (body.drop (i+1)) (b.drop (at_+1))else clnD d::dgs fl f (body.drop (i+1)) (b.drop (at_+1))):=by
     rintro t rfl;unfold JC;rw[zb];by_cases hf:c=fl∧f=true
     ·rw[if_pos hf,if_pos hf,zg (by omega) (by omega),za,hi1];exact go (at_+1) false (by omega)
     ·rw[if_neg hf,if_neg hf];have fin:∀x:UInt8,x=clnD d→zW N k (.inr (b,f,((at_+1:Nat):Int),(body.length:Int),((i+1:Nat):Int),picture.mk body tail (fl.toNat:Int),[]++[x]))=
        some (clnD d::dgs fl f (body.drop (i+1)) (b.drop (at_+1))):=by
       rintro x rfl;rw[go2 (at_+1) f _ (by omega) (by simp)];rfl
      rw[zb];have e48:([48]:List Int).map toByte=[48]:=rfl;by_cases h1:d.toNat<48
      ·rw[if_pos (by omega),e48,jA (by simp),za,zg (by omega) (by omega),za,hi1];exact fin 48 (by unfold clnD;rw[if_neg (by omega)])
      ·rw[if_neg (by omega),zb];by_cases h2:57<d.toNat
       ·rw[if_pos (by omega),e48,jA (by simp),za,zg (by omega) (by omega),za,hi1];exact fin 48 (by unfold clnD;rw[if_neg (by omega)])
       ·rw[if_neg (by omega),jL,Bool.and_true,za,List.map_singleton,jv,jA (by simp),za,zg (by omega) (by omega),za,hi1];exact fin d (by unfold clnD;rw[if_pos (by omega)])
    cases hd:dig fl c with
    |false=>rw[Bool.not_false,cond_true,if_neg (by decide),zg (by omega) (by omega),za,hi1];exact go (at_+1) f (by omega)
    |true=>
     rw[Bool.not_true,cond_false,if_pos rfl,zb];by_cases hc:c=fl
     ·rw[if_pos (by rw[hc])];exact k1 f (by simp[hc])
     ·rw[if_neg (fun e=>hc (UInt8.toNat_inj.1 (by omega)))];exact k1 false (by simp[hc])
  ·rw[if_neg (by omega),List.drop_eq_nil_of_le (by omega)];simp[dgs]
end
def zhz(s:Shape)(b:List UInt8):Nat:=val (dgs (flS s) true (edBody s.Picture) b)
def zfz(s:Shape)(n sc:Nat)(b:List UInt8):Decimal×Int:=if(b.length:Int)≠s.Size then(zdI,5)else if edT s n false (zhz s b)=some b then(gD false (zhz s b) sc,0)else if edT s n true (zhz s b)=some b then(gD true (zhz s b) sc,0)else(zdI,15)
theorem zlC{s:Shape}{n sc:Nat}{sg:Bool}(h:ES s n sc sg)(b:List UInt8):Digs (dgs (flS s) true (edBody s.Picture) b)∧(dgs (flS s) true (edBody s.Picture) b).length=n∧zhz s b<10^n:=by
 have h1:=Ki (flS s) true (edBody s.Picture) b;have h2:(dgs (flS s) true (edBody s.Picture) b).length=n:=by rw[Vg (show flS s≠86 from zaS _)];exact zfh h.ed
 exact⟨h1,h2,h2▸js h1⟩
theorem zub{neg:Bool}{l:List UInt8}{n sc:Nat}(hd:Digs l)(hl:l.length=n)(h1:1≤n)(h2:n≤62)(hs:sc≤62):nrm neg l (sc:Int)=(gD neg (val l) sc,0):=by
 have e0:(-(sc:Int)).toNat=0:=by omega
 have hlt:val l<10^n:=hl▸js hd;rw[XM,e0,Nat.pow_zero,Nat.mul_one,Int.toNat_natCast]
 ·rfl
 ·rw[e0,Nat.pow_zero,Nat.mul_one];exact Nat.le_trans (jx h1 hlt) h2
 ·exact Nat.le_trans (zB _ _ _) (by omega)
def zuw(s:Shape)(b:List UInt8):Field:=Field.mk s.Category s.Usage s.Picture s.Digits s.Scale s.Signed s.Leading s.Separate s.Just s.Blank s.Size b
theorem zlQ{N:Nat}(hN:3000<N){s:Shape}{n sc:Nat}{sg:Bool}(h:ES s n sc sg)(hc:chkV s=0)(b:List UInt8):zlR N (zuw s b)=some (zfz s n sc b):=by
 have h18:=h.n18;have h1:=h.n1;have h2:=h.scn;have hp:s.Picture.length≤400:=by have:=h.len;omega
 have hk:Xp s 5=0:=by unfold Xp;rw[if_neg (fun e=>e hc),if_neg (fun e=>e h.cat)]
 unfold zlR zfz;show bnd (zfm N s 5) (fun rr=>cond (!decide (rr=0)) _ (cond (!decide (((b.length:Nat):Int)=s.Size)) _ (bnd (eOf N s) fun rr1=>bnd (zdB N rr1 b) fun rr2=>bnd (zb9 N false rr2 s.Scale) fun rr3=>cond (decide (rr3.2=0)) (bnd (VR N rr3.1 s) fun rr4=>bnd (WV N rr4 b) fun rr5=>cond rr5 _ (bnd (zb9 N true rr2 s.Scale) fun rr6=>cond (decide (rr6.2=0)) (bnd (VR N rr6.1 s) fun rr7=>bnd (WV N rr7 b) _) _)) _)))=_;rw[zfl (by omega) hp,hk,zc,zf,if_pos rfl,zf];by_cases hl:(b.length:Int)=s.Size
 ·obtain⟨g1,g2,g3⟩:=zlC h b;have hsz:=h.siz;have hlen:=h.len;have hw:0+wide ((edBody s.Picture).drop 0)≤b.length:=by have e:s.Picture=_:=zcg s.Picture;rw[zaf,e,zjt]at hsz;rw[List.drop_zero];omega
  have hbl:b.length≤1000:=by rw[zaf]at hsz;have:=zsn s.Picture;omega
  have hdg:zdB N (zka s) b=some (dgs (flS s) true (edBody s.Picture) b):=by have:=zcQ (N:=N) (tail:=zR s.Picture) (fl:=flS s) hbl (Nat.le_trans (WI s.Picture) (by omega)) N 0 0 true (by omega) (by have:=WI s.Picture;omega) hw;rw[List.drop_zero,List.drop_zero]at this;exact this
  have hne:dgs (flS s) true (edBody s.Picture) b≠[]:=by intro e;rw[e]at g2;have g2:0=n:=g2;omega
  have hnew:∀neg,zb9 N neg (dgs (flS s) true (edBody s.Picture) b) s.Scale=some (gD neg (zhz s b) sc,0):=fun neg=>by rw[za6 hN _ g1 hne (by omega) (by rw[h.scl];omega) (by rw[h.scl];omega),h.scl,zub g1 g2 h1 (by omega) (by omega)];rfl
  rw[if_pos hl,if_neg (fun e=>e hl),zrE (by omega) hp,zc,hdg,zc,hnew,zc];dsimp only;obtain⟨r,e1,e2⟩:=zm8 hN h false g3;obtain⟨r',e1',e2'⟩:=zm8 hN h true g3;rw[decide_eq_true rfl,cond_true,e2,zc,hnew,e1,e1'];unfold WV;rw[zc,zb];by_cases hr:r=b
  ·rw[if_pos hr,if_pos (by rw[hr])]
  ·rw[if_neg hr,if_neg (fun e=>hr (Option.some.inj e)),zc];dsimp only;rw[decide_eq_true rfl,cond_true,e2',zc,zc,zb];by_cases hr':r'=b
   ·rw[if_pos hr',if_pos (by rw[hr'])]
   ·rw[if_neg hr',if_neg (fun e=>hr' (Option.some.inj e))];rfl
 ·rw[if_neg hl,if_pos hl];rfl
end Go.Proofs.C06
end
section
set_option maxRecDepth 100000
namespace Go.Proofs.C06
open Go Go.RowKit Go.Vc Go.Am Go.Dg
theorem zsz{s:Shape}(h:chkV s=0)(h0:s.Category≠0):s.Size=sizeV s:=by
 unfold chkV at h;by_cases hE:yF s=0
 ·rw[if_neg (fun h=>h hE),if_neg h0]at h;unfold zc7 at h;by_cases h1:(jW s.Picture).2=0
  ·rw[if_neg (fun h=>h h1)]at h;split at h
   ·cases h
   ·exact (Wd h).2.2
  ·rw[if_pos h1]at h;exact absurd h h1
 ·rw[if_pos hE]at h;exact absurd h hE
end Go.Proofs.C06
end
