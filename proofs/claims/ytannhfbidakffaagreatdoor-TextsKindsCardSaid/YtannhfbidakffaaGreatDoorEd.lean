/-
  A part of the proof of the laws.
-/
import Derived.Test.YtannhfbidakffaaGreatDoorEc
import Derived.Test.YtannhfbidakffaaGreatDoorEa
set_option maxRecDepth 100000
namespace Go.Proofs.C06
open Go Go.RowKit Go.Vc Go.Am Go.Dg
def zFf(d:UInt8):UInt8:=if 48<=d.toNat/\d.toNat<=57 then d else 48
def dgs(fl:UInt8):Bool->uAU->uAU->uAU
 |_,[],_=>[]
 |f,c::r,bs=>if c=86 then dgs fl f r bs else if dig fl c=true then(if c=fl/\f=true then dgs fl false r bs.tail else zFf (bs.headD 0)::dgs fl f r bs.tail)else dgs fl f r bs.tail
def wide(r:uAU):Nat:=r.countP fun c=>!decide (c=86)
theorem zjI(c:UInt8)(r:uAU):wide (c::r)=(if c=86 then 0 else 1)+wide r:=by
 unfold wide
 grind
theorem zwd(a b:uAU):wide (a++b)=wide a+wide b:=List.countP_append
theorem znX(p:uAU):szN p=wide p:=by
 unfold szN;induction p with
 |nil=>rfl
 |cons c r j=>
  rw[zjI,mM,List.count_cons,<-j];have:=List.count_le_length (a:=(86:UInt8)) (l:=r);by_cases h:c=86
  ·simp[h]
  ·simp[h];omega
def zt6(s:Shape)(b:uAU):Nat:=val (dgs (flS s) true (edBody s.uD) b)
def zCK(s:Shape)(n sc:Nat)(b:uAU):Decimal×Int:=if(b.length:Int)≠s.uE then(zgS,5)else if edT s n false (zt6 s b)=some b then(gD false (zt6 s b) sc,0)else if edT s n true (zt6 s b)=some b then(gD true (zt6 s b) sc,0)else(zgS,15)
theorem zAm{s:Shape}(h:chkV s=0)(H:s.uC≠0):s.uE=sizeV s:=by
 unfold chkV at h;by_cases B:qm s=0
 ·rw[if_neg (fun h=>h B),if_neg H]at h;unfold zfk at h;by_cases j:(yI s.uD).2=0
  ·rw[if_neg (fun h=>h j)]at h;split at h
   ·cases h
   ·exact (za3 h).2.2
  grind
 grind
theorem zhX{N:Nat}(c:UInt8){m:Nat}(B:m<=2000):∀(k i:Nat)(out:uAU),i<=m->m-i<k->out=List.replicate i c->zcB N k [c] (m:Int) out (i:Int)=some (List.replicate m c)
 |0,i,out,hi,h,_=>oM
 |k+1,i,out,hi,h,ho=>by
  show zdU N (zcB N k) [c] (m:Int) out (i:Int)=_;unfold zdU;rw[zb];by_cases j:i<m
  ·rw[if_pos oM,XA.2 (by rw[ho];simp;omega),za,zh oM oM,za,show(i:Int)+1=((i+1:Nat):Int)by omega];refine zhX c B k (i+1) _ oM oM ?_;rw[ho,<-List.replicate_succ']
  ·have:i=m:=oM
   rw[if_neg oM,ho,this]
theorem zmp{N:Nat}(B:3000<N)(c:UInt8){m:Nat}(j:m<=2000):zru N [c] (m:Int)=some (List.replicate m c):=
 zhX c j N 0 [] oM oM rfl
end Go.Proofs.C06
