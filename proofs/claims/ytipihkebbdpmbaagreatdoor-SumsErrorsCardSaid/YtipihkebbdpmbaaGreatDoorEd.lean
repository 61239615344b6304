/-
  A part of the proof of the laws.
-/
import Derived.Test.YtipihkebbdpmbaaGreatDoorEc
import Derived.Test.YtipihkebbdpmbaaGreatDoorEa
section
set_option maxRecDepth 100000
namespace Go.Proofs.C06
open Go Go.RowKit Go.Vc Go.Am Go.Dg
def wide(r:List UInt8):Nat:=r.countP fun c=>!decide (c=86)
theorem ziU(c:UInt8)(r:List UInt8):wide (c::r)=(if c=86 then 0 else 1)+wide r:=by
 unfold wide;rw[List.countP_cons];by_cases h:c=86
 ·rw[if_pos h,if_neg (by simp[h])];omega
 ·rw[if_neg h,if_pos (by simp[h])];omega
theorem zuH(a b:List UInt8):wide (a++b)=wide a+wide b:=List.countP_append
theorem zm7(p:List UInt8):szN p=wide p:=by
 unfold szN;induction p with
 |nil=>rfl
 |cons c r ih=>
  rw[ziU,List.length_cons,List.count_cons,←ih];have:=List.count_le_length (a:=(86:UInt8)) (l:=r);by_cases h:c=86
  ·simp[h]
  ·simp[h];omega
end Go.Proofs.C06
end
section
set_option maxRecDepth 100000
namespace Go.Proofs.C06
open Go Go.RowKit Go.Vc Go.Am Go.Dg
theorem zA6{s:Shape}(h:chkV s=0)(h0:s.Category≠0):s.Size=sizeV s:=by
 unfold chkV at h;by_cases hE:ZG s=0
 ·rw[if_neg (fun h=>h hE),if_neg h0]at h;unfold zhf at h;by_cases h1:(ya s.Picture).2=0
  ·rw[if_neg (fun h=>h h1)]at h;split at h
   ·cases h
   ·exact (WL h).2.2
  ·rw[if_pos h1]at h;exact absurd h h1
 ·rw[if_pos hE]at h;exact absurd h hE
end Go.Proofs.C06
end
section
set_option maxRecDepth 100000
namespace Go.Proofs.C06
open Go Go.RowKit Go.Vc Go.Am Go.Dg
theorem zhr{N:Nat}(c:UInt8){m:Nat}(hm:m≤2000):∀(k i:Nat)(out:List UInt8),i≤m→m-i<k→out=List.replicate i c→zcd N k [c] (m:Int) out (i:Int)=some (List.replicate m c)
 |0,i,out,hi,h,_=>by omega
 |k+1,i,out,hi,h,ho=>by
  show zdg N (zcd N k) [c] (m:Int) out (i:Int)=_;unfold zdg;rw[zb];by_cases hlt:i<m
  ·rw[if_pos (by omega),QK.2 (by rw[ho];simp;omega),za,zu (by omega) (by omega),za,show(i:Int)+1=((i+1:Nat):Int)by omega];refine zhr c hm k (i+1) _ (by omega) (by omega) ?_;rw[ho,←List.replicate_succ']
  ·have:i=m:=by omega
   rw[if_neg (by omega),ho,this]
theorem zlW{N:Nat}(hN:3000<N)(c:UInt8){m:Nat}(hm:m≤2000):zqj N [c] (m:Int)=some (List.replicate m c):=
 zhr c hm N 0 [] (by omega) (by omega) rfl
def lsg(c:UInt8)(neg:Bool):UInt8:=if c=36 then 36 else zA8 c neg
def atL(fl:UInt8):Bool→List UInt8→List UInt8→List UInt8
 |_,[],_=>[]
 |f,c::r,ds=>if c=fl∧f=false then 0::atL fl true r ds else if dig fl c=true then ds.headD 0::atL fl f r ds.tail else 0::atL fl f r ds
def Yc(P:UInt8→Bool)(fl:UInt8):Bool→List UInt8→Bool
 |_,[]=>true
 |f,c::r=>if c=fl∧f=false then Yc P fl true r else if dig fl c=true then P c&&Yc P fl f r else Yc P fl f r
def z48(ds:List UInt8):Bool:=ds.all fun d=>decide (d=48)
def isZ(fl c:UInt8):Bool:=decide (c=90)||decide (c=fl)
def isS(c:UInt8):Bool:=decide (c=42)
end Go.Proofs.C06
end
section
set_option maxRecDepth 100000
namespace Go.Proofs.C06
open Go Go.RowKit Go.Vc Go.Am Go.Dg
def nb(fl c:UInt8):Bool:=!(decide (c=90)||decide (c=42)||decide (c=fl)||decide (c=46)||decide (c=86)||decide (c=57))
def stp(c:UInt8):Bool:=decide (c=46)||decide (c=86)||decide (c=57)
def md(x:UInt8×UInt8):Bool:=!stp x.1&&(decide (x.2=0)||decide (x.2=48))
def bgV(fl:UInt8)(p:List UInt8):Nat:=(p.takeWhile (nb fl)).length
def enV(p a:List UInt8)(e:Nat):Nat:=e+(((p.drop e).zip (a.drop e)).takeWhile md).length
def chC(fl:UInt8)(star neg zs:Bool)(bg en i:Nat)(c a:UInt8):List UInt8:=if c=86 then[]else if zs=true∧c≠46 then[42]else if(bg≤i∧i<en)∧star=true then[42]else if(bg≤i∧i<en)∧fl≠0∧i+1=en then[lsg fl neg]else if(bg≤i∧i<en)∨c=66 then[32]else if a≠0 then[a]else if c=43∨c=45 then[lsg c neg]else[c]
def outL(fl:UInt8)(star neg zs:Bool)(bg en:Nat):Nat→List UInt8→List UInt8→List UInt8
 |_,[],_=>[]
 |i,c::r,a=>chC fl star neg zs bg en i c (a.headD 0)++outL fl star neg zs bg en (i+1) r a.tail
def zoj(neg zs:Bool)(tail:List UInt8):List UInt8:=if zs=true then List.replicate tail.length 42 else if neg=true then tail else List.replicate tail.length 32
end Go.Proofs.C06
end
section
set_option maxRecDepth 100000
namespace Go.Proofs.C06
open Go Go.RowKit Go.Vc Go.Am Go.Dg
def JH(fl:UInt8)(p a:List UInt8):Nat×Nat:=if bgV fl p<p.length∧stp (p.getD (bgV fl p) 0)=true then(p.length,p.length)else(bgV fl p,enV p a (bgV fl p))
theorem We(fl:UInt8):∀(f:Bool)(p ds:List UInt8),(atL fl f p ds).length=p.length
 |_,[],_=>rfl
 |f,c::r,ds=>by
  unfold atL;split
  ·rw[List.length_cons,List.length_cons,We fl true r ds]
  ·split
   ·rw[List.length_cons,List.length_cons,We fl f r _]
   ·rw[List.length_cons,List.length_cons,We fl f r ds]
def zyV(s:Shape)(ds:List UInt8)(neg:Bool):List UInt8:=if z48 (ds.take (need (flS s) false (edBody s.Picture)))=true∧(s.Blank=true∨Yc (isZ (flS s)) (flS s) false (edBody s.Picture)=true)then List.replicate s.Size.toNat 32 else outL (flS s) ((edBody s.Picture).contains 42) neg (z48 (ds.take (need (flS s) false (edBody s.Picture)))&&Yc isS (flS s) false (edBody s.Picture)) (JH (flS s) (edBody s.Picture) (atL (flS s) false (edBody s.Picture) ds)).1 (JH (flS s) (edBody s.Picture) (atL (flS s) false (edBody s.Picture) ds)).2 0 (edBody s.Picture) (atL (flS s) false (edBody s.Picture) ds)++zoj neg (z48 (ds.take (need (flS s) false (edBody s.Picture)))&&Yc isS (flS s) false (edBody s.Picture)) (jq s.Picture)
end Go.Proofs.C06
end
