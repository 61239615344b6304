/-
  A part of the proof of the laws.
-/
import Derived.Test.YtigfdpnifmaleaaGreatDoorEc
import Derived.Test.YtigfdpnifmaleaaGreatDoorEa
section
set_option maxRecDepth 100000
namespace Go.Proofs.C06
open Go Go.RowKit Go.Vc Go.Am Go.Dg
def wide(r:uBl):Nat:=r.countP fun c=>!decide (c=86)
theorem zhz(c:UInt8)(r:uBl):wide (c::r)=(if c=86 then 0 else 1)+wide r:=by
 unfold wide;rw[List.countP_cons];by_cases h:c=86
 ·rw[if_pos h,if_neg (by simp[h])];omega
 ·rw[if_neg h,if_pos (by simp[h])];omega
theorem zsJ(a b:uBl):wide (a++b)=wide a+wide b:=uBf
theorem zlF(p:uBl):szN p=wide p:=by
 unfold szN;induction p with
 |nil=>rfl
 |cons c r ih=>
  rw[zhz,mK,List.count_cons,<-ih];have:=uAu (a:=(86:UInt8)) (l:=r);by_cases h:c=86
  ·simp[h]
  ·simp[h];omega
end Go.Proofs.C06
end
section
set_option maxRecDepth 100000
namespace Go.Proofs.C06
open Go Go.RowKit Go.Vc Go.Am Go.Dg
theorem zwg{s:Shape}(h:chkV s=0)(h0:s.uD≠0):s.uI=sizeV s:=by
 unfold chkV at h;by_cases hE:yY s=0
 ·rw[if_neg (fun h=>h hE),if_neg h0]at h;unfold zdQ at h;by_cases h1:(yc s.uC).2=0
  ·rw[if_neg (fun h=>h h1)]at h;split at h
   ·cases h
   ·exact (WO h).2.2
  ·rw[if_pos h1]at h;exact absurd h h1
 ·rw[if_pos hE]at h;exact absurd h hE
end Go.Proofs.C06
end
section
set_option maxRecDepth 100000
namespace Go.Proofs.C06
open Go Go.RowKit Go.Vc Go.Am Go.Dg
theorem zf2{N:Nat}(c:UInt8){m:Nat}(hm:m<=2000):∀(k i:Nat)(out:uBl),i<=m->m-i<k->out=List.replicate i c->zbe N k [c] (m:Int) out (i:Int)=some (List.replicate m c)
 |0,i,out,hi,h,_=>by omega
 |k+1,i,out,hi,h,ho=>by
  show zcy N (zbe N k) [c] (m:Int) out (i:Int)=_;unfold zcy;rw[zb];by_cases hlt:i<m
  ·rw[if_pos (by omega),QE.2 (by rw[ho];simp;omega),za,zn (by omega) (by omega),za,show(i:Int)+1=((i+1:Nat):Int)by omega];refine zf2 c hm k (i+1) _ (by omega) (by omega) ?_;rw[ho,<-List.replicate_succ']
  ·have:i=m:=by omega
   rw[if_neg (by omega),ho,this]
theorem zkc{N:Nat}(hN:3000<N)(c:UInt8){m:Nat}(hm:m<=2000):zoS N [c] (m:Int)=some (List.replicate m c):=
 zf2 c hm N 0 [] (by omega) (by omega) rfl
def lsg(c:UInt8)(neg:Bool):UInt8:=if c=36 then 36 else zwi c neg
def atL(fl:UInt8):Bool->uBl->uBl->uBl
 |_,[],_=>[]
 |f,c::r,ds=>if c=fl/\f=false then 0::atL fl true r ds else if dig fl c=true then ds.headD 0::atL fl f r ds.tail else 0::atL fl f r ds
def J7(P:UInt8->Bool)(fl:UInt8):Bool->uBl->Bool
 |_,[]=>true
 |f,c::r=>if c=fl/\f=false then J7 P fl true r else if dig fl c=true then P c&&J7 P fl f r else J7 P fl f r
def z48(ds:uBl):Bool:=ds.all fun d=>decide (d=48)
def isZ(fl c:UInt8):Bool:=decide (c=90)||decide (c=fl)
def isS(c:UInt8):Bool:=decide (c=42)
end Go.Proofs.C06
end
section
set_option maxRecDepth 100000
namespace Go.Proofs.C06
open Go Go.RowKit Go.Vc Go.Am Go.Dg
def nb(fl c:UInt8):Bool:=!(decide (c=90)||decide (c=42)||decide (c=fl)||decide (c=46)||decide (c=86)||decide (c=57))
def stp(c:UInt8):Bool:=decide (c=46)||decide (c=86)||decide (c=57)
def md(x:UInt8×UInt8):Bool:=!stp x.1&&(decide (x.2=0)||decide (x.2=48))
def bgV(fl:UInt8)(p:uBl):Nat:=(p.takeWhile (nb fl)).length
def enV(p a:uBl)(e:Nat):Nat:=e+(((p.drop e).zip (a.drop e)).takeWhile md).length
def chC(fl:UInt8)(star neg zs:Bool)(bg en i:Nat)(c a:UInt8):uBl:=if c=86 then[]else if zs=true/\c≠46 then[42]else if(bg<=i/\i<en)/\star=true then[42]else if(bg<=i/\i<en)/\fl≠0/\i+1=en then[lsg fl neg]else if(bg<=i/\i<en)\/c=66 then[32]else if a≠0 then[a]else if c=43\/c=45 then[lsg c neg]else[c]
def outL(fl:UInt8)(star neg zs:Bool)(bg en:Nat):Nat->uBl->uBl->uBl
 |_,[],_=>[]
 |i,c::r,a=>chC fl star neg zs bg en i c (a.headD 0)++outL fl star neg zs bg en (i+1) r a.tail
def zmR(neg zs:Bool)(tail:uBl):uBl:=if zs=true then List.replicate tail.length 42 else if neg=true then tail else List.replicate tail.length 32
end Go.Proofs.C06
end
section
set_option maxRecDepth 100000
namespace Go.Proofs.C06
open Go Go.RowKit Go.Vc Go.Am Go.Dg
def Jx(fl:UInt8)(p a:uBl):Nat×Nat:=if bgV fl p<p.length/\stp (p.getD (bgV fl p) 0)=true then(p.length,p.length)else(bgV fl p,enV p a (bgV fl p))
theorem VU(fl:UInt8):∀(f:Bool)(p ds:uBl),(atL fl f p ds).length=p.length
 |_,[],_=>rfl
 |f,c::r,ds=>by
  unfold atL;split
  ·rw[mK,mK,VU fl true r ds]
  ·split
   ·rw[mK,mK,VU fl f r _]
   ·rw[mK,mK,VU fl f r ds]
def zsj(s:Shape)(ds:uBl)(neg:Bool):uBl:=if z48 (ds.take (need (flS s) false (edBody s.uC)))=true/\(s.uH=true\/J7 (isZ (flS s)) (flS s) false (edBody s.uC)=true)then List.replicate s.uI.toNat 32 else outL (flS s) ((edBody s.uC).contains 42) neg (z48 (ds.take (need (flS s) false (edBody s.uC)))&&J7 isS (flS s) false (edBody s.uC)) (Jx (flS s) (edBody s.uC) (atL (flS s) false (edBody s.uC) ds)).1 (Jx (flS s) (edBody s.uC) (atL (flS s) false (edBody s.uC) ds)).2 0 (edBody s.uC) (atL (flS s) false (edBody s.uC) ds)++zmR neg (z48 (ds.take (need (flS s) false (edBody s.uC)))&&J7 isS (flS s) false (edBody s.uC)) (ji s.uC)
end Go.Proofs.C06
end
