/-
  A part of the proof of the laws.
-/
import Derived.Lib.SlTrimSet
import Derived.Lib.Strings
import Derived.Test.YtodebhabandljaaGreatDoorS2
import Derived.Test.YtodebhabandljaaGreatDoorPa
import Derived.Laws.Entries
import Derived.Test.YtodebhabandljaaGreatDoorS4
section
namespace Go.Dg
def Digs(l:uAS):Prop:=∀c∈l,48<=c.toNat/\c.toNat<=57
instance(l:uAS):Decidable (Digs l):=by unfold Digs;infer_instance
theorem Digs.nil:Digs []:=by simp[Digs]
theorem Digs.cons{c:UInt8}{l:uAS}:Digs (c::l)↔(48<=c.toNat/\c.toNat<=57)/\Digs l:=by simp[Digs]
theorem Digs.append{a b:uAS}:Digs (a++b)↔Digs a/\Digs b:=by
 unfold Digs;constructor
 ·intro h;exact⟨fun c hc=>h c (nN _ hc),fun c hc=>h c (uAj _ hc)⟩
 ·rintro⟨y,j⟩ c hc;rcases mQ.1 hc with h|h
  ·exact y c h
  ·exact j c h
theorem Digs.take{l:uAS}(h:Digs l)(n:Nat):Digs (l.take n):=fun c hc=>h c (uAy hc)
def val(l:uAS):Nat:=l.foldl (fun a c=>10*a+(c.toNat-48)) 0
theorem XQ:∀(l:uAS)(a:Nat),l.foldl (fun a c=>10*a+(c.toNat-48)) a=a*10^l.length+val l
 |[],a=>by simp[val]
 |c::l,a=>by
  have B:=XQ l (10*a+(c.toNat-48));have j:=XQ l (10*0+(c.toNat-48));have y:val (c::l)=l.foldl (fun a c=>10*a+(c.toNat-48)) (10*0+(c.toNat-48)):=rfl;rw[List.foldl_cons,B,y,j,mC,Nat.pow_succ,uAg,uAg];have e:10*a*10^l.length=a*(10^l.length*10):=by rw[Nat.mul_comm 10 a,Nat.mul_assoc,Nat.mul_comm 10]
  omega
theorem zvb:val []=0:=rfl
theorem zj2(c:UInt8)(l:uAS):val (c::l)=(c.toNat-48)*10^l.length+val l:=by have:=XQ l (10*0+(c.toNat-48));have j:val (c::l)=l.foldl (fun a c=>10*a+(c.toNat-48)) (10*0+(c.toNat-48)):=rfl;rw[j,this,Nat.mul_zero,uAr]
theorem zlR(a b:uAS):val (a++b)=val a*10^b.length+val b:=by
 have:val (a++b)=b.foldl (fun a c=>10*a+(c.toNat-48)) (val a):=by unfold val;rw[List.foldl_append]
 rw[this,XQ]
theorem zj1(l:uAS)(c:UInt8):val (l++[c])=10*val l+(c.toNat-48):=by rw[zlR,zj2,zvb];simp;omega
theorem pow_pos(n:Nat):0<10^n:=Nat.pow_pos (by decide)
theorem zqU:∀{l:uAS},Digs l->val l<10^l.length
 |[],_=>by simp[val]
 |c::l,h=>by rw[Digs.cons]at h;have j:=zqU h.2;rw[zj2,mC,Nat.pow_succ];have:(c.toNat-48)*10^l.length<=9*10^l.length:=nE _ (by omega);omega
def fmt:Nat->Nat->uAS
 |0,_=>[]
 |n+1,v=>fmt n (v/10)++[UInt8.ofNat (48+v%10)]
theorem zqy{d:Nat}(h:d<10):(UInt8.ofNat (48+d)).toNat=48+d:=by rw[UInt8.toNat_ofNat'];omega
def tz(l:uAS):uAS:=l.dropWhile (· ==48)
def zBW(v:Nat):uAS:=tz (fmt v v)
end Go.Dg
end
section
namespace Go.Dg
def zq3:Nat->Nat->Nat×Nat
 |0,v=>(v,0)
 |s+1,v=>if v%10=0 then zq3 s (v/10)else(v,s+1)
def zuW(j:Bool)(v s:Nat):Bool×uAS×Nat:=if v=0 then(false,[48],0)else(j,zBW (zq3 s v).1,(zq3 s v).2)
end Go.Dg
end
section
set_option maxRecDepth 100000
namespace Go.Proofs.C06
open Go Go.RowKit Go.Vc Go.Am Go.Dg
theorem Zg{a b:uAS}(h:a.length+b.length<=1000000):yK a b=true:=by rw[zba];omega
def zBt(c:Bool×uAS×Nat):Decimal:=Decimal.mk c.1 c.2.1 (c.2.2:Int)
def zAW:Decimal:=Decimal.mk false [] 0
def nrm(j:Bool)(l:uAS)(y:Int):Decimal×Int:=if 62<(zuW j (val l*10^(-y).toNat) y.toNat).2.1.length\/62<(zuW j (val l*10^(-y).toNat) y.toNat).2.2 then(zAW,14)else(zBt (zuW j (val l*10^(-y).toNat) y.toNat),0)
def VD(d:Decimal):Prop:=d.uA≠[]/\Digs d.uA/\d.uA.length<=62/\0<=d.uL/\d.uL<=62/\nrm d.wF d.uA d.uL=(d,0)
instance(d:Decimal):Decidable (VD d):=by unfold VD;infer_instance
end Go.Proofs.C06
end
section
namespace Go.Dg
open Go
theorem zu9{n:Int}(j:0<=n)(y:n<256):IntKind.wrap .u8 n=n:=by have e:(2^IntKind.bits .u8:Int)=256:=rfl;unfold IntKind.wrap;rw[e];simp only[show IntKind.signed .u8=false from rfl,uAq,mR,if_false];omega
theorem wrap_u64(n:Int):IntKind.wrap .u64 n=n%18446744073709551616:=by have e:(2^IntKind.bits .u64:Int)=18446744073709551616:=rfl;unfold IntKind.wrap;rw[e];simp only[show IntKind.signed .u64=false from rfl,uAq,mR,if_false]
theorem zjV(n:Int):IntKind.wrap .u8 n=n%256:=by have e:(2^IntKind.bits .u8:Int)=256:=rfl;unfold IntKind.wrap;rw[e];simp only[show IntKind.signed .u8=false from rfl,uAq,mR,if_false]
theorem wrap_i64(n:Int):IntKind.wrap .i64 n=if 9223372036854775808<=n%18446744073709551616 then n%18446744073709551616-18446744073709551616 else n%18446744073709551616:=by have e:(2^IntKind.bits .i64:Int)=18446744073709551616:=rfl;have j:(2^(IntKind.bits .i64-1):Int)=9223372036854775808:=rfl;unfold IntKind.wrap;rw[e,j];simp only[show IntKind.signed .i64=true from rfl,uAc,decide_eq_true_eq,ge_iff_le]
theorem zjX{n:Int}(j: -9223372036854775808<=n)(y:n<9223372036854775808):IntKind.wrap .i64 n=n:=by rw[wrap_i64];split<;>omega
theorem zbw(w:Nat)(x:Int):((BitVec.ofInt w x).toNat:Int)=x% (2^w:Int):=by
 rw[BitVec.toNat_ofInt,Int.toNat_of_nonneg]
 ·norm_cast
 ·exact uAJ _ (by have:=Nat.two_pow_pos w;omega)
theorem zjB{k:IntKind}{x:Int}{m:Nat}(j:m<=k.bits):bits .and k x ((2^m-1:Nat):Int)=k.wrap (x% ((2^m:Nat):Int)):=by
 have B:(BitVec.ofInt k.bits ((2^m-1:Nat):Int)).toNat=2^m-1:=by
  have h:=zbw k.bits ((2^m-1:Nat):Int);have y:(2:Nat)^m<=2^k.bits:=Nat.pow_le_pow_right (by decide) j;have hp:=Nat.two_pow_pos m;have hc:(2^k.bits:Int)=((2^k.bits:Nat):Int):=by norm_cast
  rw[hc,Int.emod_eq_of_lt (by omega) (by omega)]at h;omega
 unfold bits;simp only[BitVec.toNat_and,B,Nat.and_two_pow_sub_one_eq_mod];congr 1;rw[Int.natCast_emod,zbw];refine Int.emod_emod_of_dvd _ ?_;have:=Nat.pow_dvd_pow 2 j;have hc:(2^k.bits:Int)=((2^k.bits:Nat):Int):=by norm_cast
 rw[hc];exact Int.natCast_dvd_natCast.2 this
theorem zAR{x:Int}:bits .and .i64 x 255=x%256:=by have:=zjB (k:=.i64) (x:=x) (m:=8) (by decide);rw[show((2^8-1:Nat):Int)=255 from rfl,show((2^8:Nat):Int)=256 from rfl,zjX (by omega) (by omega)]at this;exact this
end Go.Dg
end
section
set_option maxRecDepth 100000
namespace Go.Proofs.C06
open Go Go.RowKit Go.Vc Go.Am Go.Dg
theorem qm{i n:Nat}(h:i<n):zw (i:Int) n=true:=zB.2 ⟨by omega,by omega⟩
theorem yh(s:uAS)(i:Nat):byteAt s (i:Int)=((s.getD i 0).toNat:Int):=rfl
theorem QS{n:Int}(j:0<=n)(h:n<=255):zn .u8 n=true:=ql.2 ⟨j,h⟩
theorem zA0(c:UInt8):c.toNat<256:=UInt8.toNat_lt c
theorem zgp{c:Nat}:toByte (c:Int)=UInt8.ofNat c:=rfl
theorem zhz(c:UInt8):toByte ((c.toNat:Nat):Int)=c:=by unfold toByte;rw[nA];exact UInt8.ofNat_toNat
theorem zuj{l:uAS}{i:Nat}(h:i<l.length):l.getD i 0∈l:=by rw[mG,kZ h];exact uAz h
theorem XW{l:uAS}(j:Digs l){i:Nat}(h:i<l.length):48<=(l.getD i 0).toNat/\(l.getD i 0).toNat<=57:=j _ (zuj h)
def zoW:uAS:=[123,65,66,67,68,69,70,71,72,73]
def ziK:uAS:=[125,74,75,76,77,78,79,80,81,82]
def letC(ng:Bool)(c:UInt8):UInt8:=(if ng then ziK else zoW).getD (c.toNat-48) 0
def sgnAt(ld:Bool)(n:Nat):Nat:=if ld then 0 else n-1
def wZ(sg ld ng:Bool)(n:Nat)(s:uAS):uAS:=if sg then s.set (sgnAt ld n) (letC ng (s.getD (sgnAt ld n) 0))else s
theorem ZQ{n:Int}(j:0<=n)(y:n<256):IntKind.wrap .u8 n=n:=zu9 j y
def wS(ld ng:Bool)(s:uAS):uAS:=if ld then(if ng then 45 else 43)::s else s++[if ng then 45 else 43]
end Go.Proofs.C06
end
section
set_option maxRecDepth 100000
namespace Go.Proofs.C06
open Go Go.RowKit Go.Vc Go.Am Go.Dg
theorem q9{n:Nat}(h:n<=1000000):growOk 1 n=true:=by unfold growOk;simp;omega
def ztO(sg:Bool)(l:UInt8):Prop:=if sg then l.toNat=12\/l.toNat=13 else l.toNat=15
instance(sg:Bool)(l:UInt8):Decidable (ztO sg l):=by unfold ztO;infer_instance
def pk(l:UInt8):uAS->uAS
 |[]=>[]
 |[a]=>[UInt8.ofNat (16*(a.toNat-48)+l.toNat)]
 |a::c::r=>UInt8.ofNat (16*(a.toNat-48)+(c.toNat-48))::pk l r
def odd(s:uAS):uAS:=if s.length%2=0 then 48::s else s
def wP(sg ng:Bool)(s:uAS):uAS:=pk (if sg then(if ng then 13 else 12)else 15) (odd s)
end Go.Proofs.C06
end
section
set_option maxRecDepth 100000
namespace Go.Proofs.C06
open Go Go.RowKit Go.Vc Go.Am Go.Dg
theorem ZU{b:uAS}{i:Nat}(h:i<b.length):b.take (i+1)=b.take i++[b.getD i 0]:=by rw[List.take_add_one,kZ h,mG,kZ h];rfl
def be:Nat->Nat->uAS
 |0,_=>[]
 |k+1,v=>be k (v/256)++[UInt8.ofNat (v%256)]
def wB(k:Nat)(ng:Bool)(s:uAS):uAS:=be k (if ng then(18446744073709551616-val s)%18446744073709551616 else val s)
def binW(n:Nat):Nat:=if n<=4 then 2 else if n<=9 then 4 else 8
end Go.Proofs.C06
end
section
set_option maxRecDepth 100000
namespace Go.Proofs.C06
open Go Go.RowKit Go.Vc Go.Am Go.Dg
def quo(v S:Nat)(s:Int):Nat:=v*10^(s-(S:Int)).toNat/10^((S:Int)-s).toNat
def exact(v S:Nat)(s:Int):Prop:=v%10^((S:Int)-s).toNat=0
instance(v S:Nat)(s:Int):Decidable (exact v S s):=by unfold exact;infer_instance
def zzr(d:Decimal)(n:Nat)(s:Int):Prop:=exact (val d.uA) d.uL.toNat s/\quo (val d.uA) d.uL.toNat s<10^n
instance(d:Decimal)(n:Nat)(s:Int):Decidable (zzr d n s):=by unfold zzr;infer_instance
end Go.Proofs.C06
end
section
set_option maxRecDepth 100000
namespace Go.Proofs.C06
open Go Go.RowKit Go.Vc Go.Am Go.Dg
end Go.Proofs.C06
end
section
set_option maxRecDepth 100000
namespace Go.Proofs.C06
open Go Go.RowKit Go.Vc Go.Am Go.Dg
theorem zbN{N:Nat}{x:F}{n:Nat}(B:x.uA%18=(n:Int))(H:0<=x.uA)(y:n<18):∀(k i:Nat)(s:uAS),i<=n+1->n+1-i<k->Digs s->s.length=i->
  ∃l,Ze N k s (i:Int) x=some l/\Digs l/\l.length=n+1
 |0,i,s,_,hk,_,_=>by omega
 |k+1,i,s,hi,hk,hs,hl=>by
  show∃l,KM N (Ze N k) s (i:Int) x=some l/\_;unfold KM;have I:(zh x.uA&&decide (0<18))=true:=by simp[zh,H]
  rw[I,za,B,yU (by omega) (by omega),za,zQ];by_cases h:i<n+1
  ·have step:∀d:Nat,d<10->∃l,Q1 N (Ze N k) s (i:Int) (d:Int) x=some l/\Digs l/\l.length=n+1:=by intro d J;unfold Q1;have j:=zqy J;rw[show(48:Int)+(d:Int)=((48+d:Nat):Int)by omega,ZQ (by omega) (by omega),QS (by omega) (by omega),nM,za];show∃l,(chk (yK s [toByte ((48+d:Nat):Int)])<|chk (zn .i64 ((i:Int)+1))<|Ze N k (s++[toByte ((48+d:Nat):Int)]) ((i:Int)+1) x)=some l/\_;rw[zgp,Zg (by simp;omega),za,yU (by omega) (by omega),za,show(i:Int)+1=((i+1:Nat):Int)by omega];refine zbN B H y k (i+1) _ (by omega) (by omega) (Digs.append.2 ⟨hs,?_⟩) (by simp;omega);intro c hc;rw[mD]at hc;rw[hc,j];omega
   rw[if_pos (by omega),zQ];by_cases c:i<x.Value.length
   ·have O:(zh ((((x.Value.getD i 0).toNat:Nat):Int))&&decide (0<10))=true:=by simp[zh]
    rw[if_pos (by omega),qm c,za,yh,O,za,show(((x.Value.getD i 0).toNat:Nat):Int)%10=(((x.Value.getD i 0).toNat%10:Nat):Int)by omega];exact step _ (Nat.mod_lt _ (by decide))
   ·rw[if_neg (by omega)];exact step 0 (by decide)
  ·rw[if_neg (by omega)];exact⟨s,rfl,hs,by omega⟩
theorem zuv{N:Nat}(y:3000<N){x:F}(j:0<=x.uA):∃l,zpk N x=some l/\Digs l/\l.length=x.uA.toNat%18+1:=by unfold zpk;exact zbN (n:=x.uA.toNat%18) (by omega) j (by omega) N 0 [] (by omega) (by omega) Digs.nil rfl
end Go.Proofs.C06
end
