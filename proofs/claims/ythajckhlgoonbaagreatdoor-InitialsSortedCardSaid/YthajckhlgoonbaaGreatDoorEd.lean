/-
  A part of the proof of the laws.
-/
import Derived.Test.YthajckhlgoonbaaGreatDoorEc
import Derived.Test.YthajckhlgoonbaaGreatDoorEa
section
set_option maxRecDepth 100000
namespace Go.Proofs.C06
open Go Go.RowKit Go.Vc Go.Am Go.Dg
def wide(r:uBk):Nat:=r.countP fun c=>!decide (c=86)
theorem zg1(c:UInt8)(r:uBk):wide (c::r)=(if c=86 then 0 else 1)+wide r:=by
 unfold wide;rw[List.countP_cons];by_cases h:c=86
 ·rw[if_pos h,if_neg (by simp[h])];omega
 ·rw[if_neg h,if_pos (by simp[h])];omega
theorem zq4(a b:uBk):wide (a++b)=wide a+wide b:=uBe
theorem zkw(p:uBk):szN p=wide p:=by
 unfold szN;induction p with
 |nil=>rfl
 |cons c r ih=>
  rw[zg1,mK,List.count_cons,<-ih];have:=uAq (a:=(86:UInt8)) (l:=r);by_cases h:c=86
  ·simp[h]
  ·simp[h];omega
end Go.Proofs.C06
end
section
set_option maxRecDepth 100000
namespace Go.Proofs.C06
open Go Go.RowKit Go.Vc Go.Am Go.Dg
theorem ztX{s:Shape}(h:chkV s=0)(h0:s.uD≠0):s.uI=sizeV s:=by
 unfold chkV at h;by_cases hE:qk s=0
 ·rw[if_neg (fun h=>h hE),if_neg h0]at h;unfold zdt at h;by_cases h1:(yk s.uC).2=0
  ·rw[if_neg (fun h=>h h1)]at h;split at h
   ·cases h
   ·exact (WD h).2.2
  ·rw[if_pos h1]at h;exact absurd h h1
 ·rw[if_pos hE]at h;exact absurd h hE
end Go.Proofs.C06
end
section
set_option maxRecDepth 100000
namespace Go.Proofs.C06
open Go Go.RowKit Go.Vc Go.Am Go.Dg
theorem zfn{N:Nat}(c:UInt8){m:Nat}(hm:m<=2000):∀(k i:Nat)(out:uBk),i<=m->m-i<k->out=List.replicate i c->za2 N k [c] (m:Int) out (i:Int)=some (List.replicate m c)
 |0,i,out,hi,h,_=>by omega
 |k+1,i,out,hi,h,ho=>by
  show zci N (za2 N k) [c] (m:Int) out (i:Int)=_;unfold zci;rw[zb];by_cases hlt:i<m
  ·rw[if_pos (by omega),QH.2 (by rw[ho];simp;omega),za,zk (by omega) (by omega),za,show(i:Int)+1=((i+1:Nat):Int)by omega];refine zfn c hm k (i+1) _ (by omega) (by omega) ?_;rw[ho,<-List.replicate_succ']
  ·have:i=m:=by omega
   rw[if_neg (by omega),ho,this]
theorem zja{N:Nat}(hN:3000<N)(c:UInt8){m:Nat}(hm:m<=2000):znG N [c] (m:Int)=some (List.replicate m c):=
 zfn c hm N 0 [] (by omega) (by omega) rfl
def lsg(c:UInt8)(neg:Bool):UInt8:=if c=36 then 36 else zt0 c neg
def atL(fl:UInt8):Bool->uBk->uBk->uBk
 |_,[],_=>[]
 |f,c::r,ds=>if c=fl/\f=false then 0::atL fl true r ds else if dig fl c=true then ds.headD 0::atL fl f r ds.tail else 0::atL fl f r ds
def Yf(P:UInt8->Bool)(fl:UInt8):Bool->uBk->Bool
 |_,[]=>true
 |f,c::r=>if c=fl/\f=false then Yf P fl true r else if dig fl c=true then P c&&Yf P fl f r else Yf P fl f r
def z48(ds:uBk):Bool:=ds.all fun d=>decide (d=48)
def isZ(fl c:UInt8):Bool:=decide (c=90)||decide (c=fl)
def isS(c:UInt8):Bool:=decide (c=42)
end Go.Proofs.C06
end
section
set_option maxRecDepth 100000
namespace Go.Proofs.C06
open Go Go.RowKit Go.Vc Go.Am Go.Dg
def nb(fl c:UInt8):Bool:=!(decide (c=90)||decide (c=42)||decide (c=fl)||decide (c=46)||decide (c=86)||decide (c=57))
def stp(c:UInt8):Bool:=decide (c=46)||decide (c=86)||decide (c=57)
def md(x:UInt8×UInt8):Bool:=!stp x.1&&(decide (x.2=0)||decide (x.2=48))
def bgV(fl:UInt8)(p:uBk):Nat:=(p.takeWhile (nb fl)).length
def enV(p a:uBk)(e:Nat):Nat:=e+(((p.drop e).zip (a.drop e)).takeWhile md).length
def chC(fl:UInt8)(star neg zs:Bool)(bg en i:Nat)(c a:UInt8):uBk:=if c=86 then[]else if zs=true/\c≠46 then[42]else if(bg<=i/\i<en)/\star=true then[42]else if(bg<=i/\i<en)/\fl≠0/\i+1=en then[lsg fl neg]else if(bg<=i/\i<en)\/c=66 then[32]else if a≠0 then[a]else if c=43\/c=45 then[lsg c neg]else[c]
def outL(fl:UInt8)(star neg zs:Bool)(bg en:Nat):Nat->uBk->uBk->uBk
 |_,[],_=>[]
 |i,c::r,a=>chC fl star neg zs bg en i c (a.headD 0)++outL fl star neg zs bg en (i+1) r a.tail
def zlT(neg zs:Bool)(tail:uBk):uBk:=if zs=true then List.replicate tail.length 42 else if neg=true then tail else List.replicate tail.length 32
end Go.Proofs.C06
end
section
set_option maxRecDepth 100000
namespace Go.Proofs.C06
open Go Go.RowKit Go.Vc Go.Am Go.Dg
def JK(fl:UInt8)(p a:uBk):Nat×Nat:=if bgV fl p<p.length/\stp (p.getD (bgV fl p) 0)=true then(p.length,p.length)else(bgV fl p,enV p a (bgV fl p))
theorem VM(fl:UInt8):∀(f:Bool)(p ds:uBk),(atL fl f p ds).length=p.length
 |_,[],_=>rfl
 |f,c::r,ds=>by
  unfold atL;split
  ·rw[mK,mK,VM fl true r ds]
  ·split
   ·rw[mK,mK,VM fl f r _]
   ·rw[mK,mK,VM fl f r ds]
def zqI(s:Shape)(ds:uBk)(neg:Bool):uBk:=if z48 (ds.take (need (flS s) false (edBody s.uC)))=true/\(s.uH=true\/Yf (isZ (flS s)) (flS s) false (edBody s.uC)=true)then List.replicate s.uI.toNat 32 else outL (flS s) ((edBody s.uC).contains 42) neg (z48 (ds.take (need (flS s) false (edBody s.uC)))&&Yf isS (flS s) false (edBody s.uC)) (JK (flS s) (edBody s.uC) (atL (flS s) false (edBody s.uC) ds)).1 (JK (flS s) (edBody s.uC) (atL (flS s) false (edBody s.uC) ds)).2 0 (edBody s.uC) (atL (flS s) false (edBody s.uC) ds)++zlT neg (z48 (ds.take (need (flS s) false (edBody s.uC)))&&Yf isS (flS s) false (edBody s.uC)) (jl s.uC)
end Go.Proofs.C06
end
