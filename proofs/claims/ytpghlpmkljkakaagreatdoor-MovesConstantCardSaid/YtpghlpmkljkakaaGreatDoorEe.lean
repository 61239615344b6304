/-
  A part of the proof of the laws on moves.
-/
import Derived.Test.YtpghlpmkljkakaaGreatDoorEc
section
set_option maxRecDepth 100000
namespace Go.Proofs.C06
open Go Go.RowKit Go.Vc Go.Am Go.Dg
theorem zeu{N:Nat}(c:UInt8){m:Nat}(hm:m≤2000):∀(k i:Nat)(out:List UInt8),i≤m→m-i<k→out=List.replicate i c→zaw N k [c] (m:Int) out (i:Int)=some (List.replicate m c)
 |0,i,out,hi,h,_=>by omega
 |k+1,i,out,hi,h,ho=>by
  show zbH N (zaw N k) [c] (m:Int) out (i:Int)=_;unfold zbH;rw[zb];by_cases hlt:i<m
  ·rw[if_pos (by omega),Y2.2 (by rw[ho];simp;omega),za,zg (by omega) (by omega),za,show(i:Int)+1=((i+1:Nat):Int)by omega];refine zeu c hm k (i+1) _ (by omega) (by omega) ?_;rw[ho,←List.replicate_succ']
  ·have:i=m:=by omega
   rw[if_neg (by omega),ho,this]
theorem zhV{N:Nat}(hN:3000<N)(c:UInt8){m:Nat}(hm:m≤2000):zl4 N [c] (m:Int)=some (List.replicate m c):=
 zeu c hm N 0 [] (by omega) (by omega) rfl
def lsg(c:UInt8)(neg:Bool):UInt8:=if c=36 then 36 else zrR c neg
end Go.Proofs.C06
end
section
set_option maxRecDepth 100000
namespace Go.Proofs.C06
open Go Go.RowKit Go.Vc Go.Am Go.Dg
def nb(fl c:UInt8):Bool:=!(decide (c=90)||decide (c=42)||decide (c=fl)||decide (c=46)||decide (c=86)||decide (c=57))
def chC(fl:UInt8)(star neg zs:Bool)(bg en i:Nat)(c a:UInt8):List UInt8:=if c=86 then[]else if zs=true∧c≠46 then[42]else if(bg≤i∧i<en)∧star=true then[42]else if(bg≤i∧i<en)∧fl≠0∧i+1=en then[lsg fl neg]else if(bg≤i∧i<en)∨c=66 then[32]else if a≠0 then[a]else if c=43∨c=45 then[lsg c neg]else[c]
def outL(fl:UInt8)(star neg zs:Bool)(bg en:Nat):Nat→List UInt8→List UInt8→List UInt8
 |_,[],_=>[]
 |i,c::r,a=>chC fl star neg zs bg en i c (a.headD 0)++outL fl star neg zs bg en (i+1) r a.tail
end Go.Proofs.C06
end
section
set_option maxRecDepth 100000
namespace Go.Proofs.C06
open Go Go.RowKit Go.Vc Go.Am Go.Dg
end Go.Proofs.C06
end
