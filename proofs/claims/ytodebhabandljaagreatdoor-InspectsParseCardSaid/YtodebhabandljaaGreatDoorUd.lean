/-
  A part of the proof of the laws.
-/
import Derived.Test.YtodebhabandljaaGreatDoorUa
import Derived.Test.YtodebhabandljaaGreatDoorPc
import Derived.Test.YtodebhabandljaaGreatDoorS4
section
set_option maxRecDepth 100000
namespace Go.Proofs.C06
open Go Go.RowKit Go.Vc Go.Am Go.Dg
def wr(s:Shape)(n:Nat)(ng:Bool)(x:uAS):uAS:=if s.uS=true then wS s.vF ng x else if s.uM=0 then wZ s.uN s.vF ng n x else if s.uM=1 then wP s.uN ng x else wB (binW n) ng x
theorem zyW(n:Nat):binW n=2\/binW n=4\/binW n=8:=by
 unfold binW;split
 ·exact .inl rfl
 ·split
  ·exact .inr (.inl rfl)
  ·exact .inr (.inr rfl)
end Go.Proofs.C06
end
section
set_option maxRecDepth 100000
namespace Go.Proofs.C06
open Go Go.RowKit Go.Vc Go.Am Go.Dg
end Go.Proofs.C06
end
section
set_option maxRecDepth 100000
namespace Go.Proofs.C06
open Go Go.RowKit Go.Vc Go.Am Go.Dg
def picF(n kd a:Nat)(sg:Bool):uAS:=(if sg then[83]else[])++(if kd=0 then List.replicate n 57 else if kd=1 then List.replicate (n-a) 57++[86]++List.replicate a 57 else if kd=2 then List.replicate a 80++List.replicate n 57 else List.replicate n 57++List.replicate a 80)
def scF(n kd a:Nat):Int:=if kd=0 then 0 else if kd=1 then(a:Int)else if kd=2 then((n+a:Nat):Int)else-(a:Int)
def inF(n kd a:Nat):Bool:=Nat.ble 1 n&&Nat.ble n 18&&Nat.ble kd 3&&(if kd=0 then Nat.beq a 0 else if kd=1 then Nat.ble a n else Nat.ble 1 a&&Nat.ble (n+a) 18&&Nat.ble a 3)
def okF(n kd a:Nat)(sg:Bool):Bool:=!inF n kd a||(decide (zAl (picF n kd a sg)=(qY (picF n kd a sg) sg n (scF n kd a),0))&&(picF n kd a sg).all (zhD.contains ·))
def znW(n:Nat)(f:Nat->Bool):Bool:=(List.range n).all f
theorem zeg{n:Nat}{f:Nat->Bool}(h:znW n f=true){i:Nat}(j:i<n):f i=true:=mK.1 h i (List.mem_range.2 j)
theorem zyq:(znW 19 fun n=>znW 4 fun kd=>znW 19 fun a=>okF n kd a true&&okF n kd a false)=true:=by kernel_rfl
theorem zAp{n kd a:Nat}{sg:Bool}(h:inF n kd a=true):zAl (picF n kd a sg)=(qY (picF n kd a sg) sg n (scF n kd a),0)/\∀c∈picF n kd a sg,zhD.contains c=true:=by
 have H:n<=18/\kd<=3/\a<=18:=by
  unfold inF at h;simp only[kY,uAB]at h;obtain⟨⟨⟨H,B⟩,y⟩,j⟩:=h;refine⟨B,y,?_⟩;split at j
  ·have:=kV j;omega
  ·split at j
   ·rw[uAB]at j;omega
   ·simp only[kY,uAB]at j;omega
 have:=zeg (zeg (zeg zyq (show n<19 by omega)) (show kd<4 by omega)) (show a<19 by omega);rw[kY]at this;have hk:okF n kd a sg=true:=by cases sg;exact this.2;exact this.1
 unfold okF at hk;rw[h,mP,Bool.false_or,kY]at hk;exact⟨of_decide_eq_true hk.1,fun c hc=>mK.1 hk.2 c hc⟩
theorem zeW{n kd a:Nat}{sg:Bool}(H:n<=18)(B:a<=18):(picF n kd a sg).length<=60/\(1<=n->picF n kd a sg≠[]):=by
 have j:(picF n kd a sg).length=(if sg then 1 else 0)+(if kd=0 then n else if kd=1 then n-a+1+a else if kd=2 then a+n else n+a):=by
  unfold picF;rw[kW];congr 1
  ·cases sg<;>rfl
  ·split
   ·simp
   ·split
    ·simp<;>omega
    ·split<;>simp
 constructor
 ·rw[j]
  repeat' split
  all_goals omega
 ·intro y e;have:(picF n kd a sg).length=0:=by rw[e];rfl
  rw[j]at this;revert this
  repeat' split
  all_goals omega
theorem zpU{n kd a:Nat}{sg:Bool}(h:inF n kd a=true)(y:1<=n)(H:n<=18)(B:a<=18):ziu (picF n kd a sg)=(qY (picF n kd a sg) sg n (scF n kd a),0):=by obtain⟨I,O⟩:=zAp (sg:=sg) h;obtain⟨l,J,j⟩:=zff _ O;obtain⟨Z,U⟩:=zeW (kd:=kd) (sg:=sg) H B;unfold ziu;rw[J,zAD j (U y) (by omega),if_pos rfl];exact I
def shF(n kd a:Nat)(sg:Bool)(u:Int)(ld sp:Bool)(j:Int):Shape:=Shape.mk 4 u (picF n kd a sg) (n:Int) (scF n kd a) sg ld sp false false j
def qz(n:Nat)(u:Int)(sp:Bool):Int:=if u=1 then(n:Int)/2+1 else if u=2 then(if(n:Int)<=4 then 2 else if(n:Int)<=9 then 4 else 8)else if sp=true then(n:Int)+1 else(n:Int)
theorem zzW{n kd a:Nat}{sg ld sp:Bool}{u:Int}(h:inF n kd a=true)(O:1<=n)(U:n<=18)(h3:a<=18)(J:scF n kd a<=18)(y: -18<=scF n kd a)(hu:u=0\/u=1\/u=2)(Z:ld=true\/sp=true->u=0/\sg=true):
  NS (shF n kd a sg u ld sp (qz n u sp)) n/\zAN (shF n kd a sg u ld sp (qz n u sp))=0:=by
 have H:(shF n kd a sg u ld sp (qz n u sp)).vL=sizeV (shF n kd a sg u ld sp (qz n u sp)):=by unfold sizeV;rw[if_neg (by show¬((4:Int)=0);decide),if_neg (by show¬((4:Int)≠4);decide)];rfl
 refine⟨⟨rfl,O,U,rfl,hu,y,J,Z,H⟩,?_⟩;have hE:zn2 (shF n kd a sg u ld sp (qz n u sp))=0:=by
  unfold zn2;rw[if_neg,if_neg,if_neg]
  ·rintro⟨_,h⟩;have:((n:Int))<1\/18<(n:Int):=h;omega
  ·rintro⟨h,_⟩;have:(4:Int)=0:=h;omega
  ·rintro(h|h)
   ·have:(5:Int)<4:=h;omega
   ·have:(2:Int)<u:=h;omega
 have hP:=zpU (sg:=sg) h O U h3;unfold zAN;rw[if_neg (fun h=>h hE),if_neg (by show¬((4:Int)=0);decide)];unfold zBd;have B:(shF n kd a sg u ld sp (qz n u sp)).vE=picF n kd a sg:=rfl;rw[B,hP,if_neg (by simp),if_neg (by show¬(picF n kd a sg≠picF n kd a sg);simp)];have j:decide ((qY (picF n kd a sg) sg n (scF n kd a),(0:Int)).1.uR≠(shF n kd a sg u ld sp (qz n u sp)).uR\/(qY (picF n kd a sg) sg n (scF n kd a),(0:Int)).1.uA≠(shF n kd a sg u ld sp (qz n u sp)).uA\/
   (qY (picF n kd a sg) sg n (scF n kd a),(0:Int)).1.uL≠(shF n kd a sg u ld sp (qz n u sp)).uL\/(qY (picF n kd a sg) sg n (scF n kd a),(0:Int)).1.uN≠(shF n kd a sg u ld sp (qz n u sp)).uN)=false:=by
  apply decide_eq_false;rintro(h|h|h|h)<;>exact h rfl
 rw[j];unfold zzc;rw[if_neg (by simp),if_neg,if_neg,if_neg,if_neg,if_pos H]
 ·rintro⟨h,_⟩;cases h
 ·rintro⟨h,_⟩;cases h
 ·rintro⟨I,hr⟩;have I:ld=true\/sp=true:=I;obtain⟨e1,e2⟩:=Z I;rcases hr with h|h|h
  ·exact h rfl
  ·exact h e1
  ·have h:sg=false:=h;rw[e2]at h;cases h
 ·rintro⟨_,h⟩;exact h rfl
theorem ze8(N:Nat){s:Shape}{n:Nat}(J:s.uA=(n:Int))(O:n<=18):zgR N s=some (qz n s.uM s.uS):=by
 unfold zgR WM WL qz;rw[J];have I:(zh (n:Int)&&decide (0<2)&&zn .i64 ((n:Int)/2))=true:=by rw[yU (by omega) (by omega)];simp[zh]
 rw[I,za,yU (by omega) (by omega),za,zQ];by_cases y:s.uM=1
 ·rw[if_pos y,if_pos y]
 ·rw[if_neg y,if_neg y,zQ];by_cases j:s.uM=2
  ·rw[if_pos j,if_pos j,zQ];by_cases H:(n:Int)<5
   ·rw[if_pos H,if_pos (by omega)]
   ·rw[if_neg H,if_neg (by omega),zQ,if_pos j,zQ];by_cases B:(n:Int)<10
    ·rw[if_pos B,if_pos (by omega)]
    ·rw[if_neg B,if_neg (by omega),zQ,if_pos j]
  ·rw[if_neg j,if_neg j,cond_false,zQ,if_neg j,cond_false,zQ,if_neg j];cases s.uS with
   |true=>rw[cond_true,yU (by omega) (by omega),za,if_pos rfl]
   |false=>rw[cond_false,if_neg (by simp)]
end Go.Proofs.C06
end
section
set_option maxRecDepth 100000
namespace Go.Proofs.C06
open Go Go.RowKit Go.Vc Go.Am Go.Dg
theorem zgC(n:Nat)(c:UInt8):List.replicate n c++[c]=List.replicate (n+1) c:=List.replicate_succ'.symm
theorem zab{N:Nat}{x:F}{fm n kd a:Nat}{sg:Bool}{u:Int}(j:x.uB=(fm:Int))(Z:fm<=255)(y:n<=18)(J:Shape)(t:Bool):
  Yf N t x J (shF n kd a sg u false false 0)=some (shF n kd a sg u (t&&decide (fm/8%2=1)) (t&&decide (fm/16%2=1)) (qz n u (t&&decide (fm/16%2=1)))):=by
 unfold Yf;cases t with
 |false=>rw[cond_false,ze8 N (n:=n) rfl y,ze];rfl
 |true=>
  have e1:(zh x.uB&&decide (0<8)&&zn .u8 (x.uB/8))=true:=by rw[j,QS (by omega) (by omega)];simp[zh]
  have B:(zh x.uB&&decide (0<16)&&zn .u8 (x.uB/16))=true:=by rw[j,QS (by omega) (by omega)];simp[zh]
  have I:(zh (x.uB/8)&&decide (0<2))=true:=by rw[j];simp[zh];omega
  have O:(zh (x.uB/16)&&decide (0<2))=true:=by rw[j];simp[zh];omega
  have H:decide (x.uB/8%2=1)=decide (fm/8%2=1):=by rw[j,decide_eq_decide];omega
  have U:decide (x.uB/16%2=1)=decide (fm/16%2=1):=by rw[j,decide_eq_decide];omega
  rw[cond_true,e1,za,I,za,B,za,O,za,H,U,ze8 N (n:=n) rfl y,ze,uAc,uAc];rfl
def uF(fm:Nat):Int:=((fm/2%3:Nat):Int)
def ldF(fm:Nat):Bool:=decide (fm/2%3=0)&&decide (fm%2=1)&&decide (fm/8%2=1)
def spF(fm:Nat):Bool:=decide (fm/2%3=0)&&decide (fm%2=1)&&decide (fm/16%2=1)
def sgF(fm:Nat):Bool:=decide (fm%2=1)
theorem zjg{N:Nat}{x:F}{fm n kd a:Nat}(j:x.uB=(fm:Int))(y:fm<=255)(H:n<=18)(B:Shape):
  Yg N x B (shF n kd a (sgF fm) 0 false false 0)=some (shF n kd a (sgF fm) (uF fm) (ldF fm) (spF fm) (qz n (uF fm) (spF fm))):=by
 unfold Yg;have e1:(zh x.uB&&decide (0<2)&&zn .u8 (x.uB/2))=true:=by rw[j,QS (by omega) (by omega)];simp[zh]
 have J:(zh (x.uB/2)&&decide (0<3))=true:=by rw[j];simp[zh];omega
 have U:x.uB/2%3=uF fm:=by rw[j];unfold uF;omega
 rw[e1,za,J,za,U,zQ];have O:=zab (N:=N) (kd:=kd) (a:=a) (sg:=sgF fm) (u:=uF fm) j y H B (sgF fm);have Z:=zab (N:=N) (kd:=kd) (a:=a) (sg:=sgF fm) (u:=uF fm) j y H B false;unfold ldF spF;by_cases I:fm/2%3=0
 ·rw[if_pos (by unfold uF;omega),decide_eq_true I,uAc];exact O
 ·rw[if_neg (by unfold uF;omega),decide_eq_false I,uAq];exact Z
theorem zyl(n kd a:Nat):picF n kd a true=[83]++picF n kd a false:=by unfold picF;rfl
theorem zjh{N:Nat}{x:F}{fm n kd a:Nat}(O:x.uB=(fm:Int))(B:fm<=255)(J:n<=18)(ha:a<=18)(I:Shape){p:uAS}(hp:p=picF n kd a false){H:Int}(y:H=scF n kd a):
  yA N x I (Shape.mk 4 0 p (n:Int) H (sgF fm) false false false false 0)=some (shF n kd a (sgF fm) (uF fm) (ldF fm) (spF fm) (qz n (uF fm) (spF fm))):=by
 subst hp y;have U:=(zeW (kd:=kd) (sg:=false) J ha).1;unfold yA;have j:=zjg (N:=N) (kd:=kd) (a:=a) O B J I;unfold shF at j⊢;cases hs:sgF fm with
 |true=>rw[hs]at j;rw[cond_true,Zg (by show 1+(picF n kd a false).length<=1000000;omega),za,<-zyl];exact j
 |false=>rw[hs]at j;rw[cond_false];exact j
def kdF(pt n:Nat):Nat:=if pt%4=1\/pt%4=2 then 1 else if pt%4=3/\0<min (1+pt/4%3) (18-n)then(if 128<=pt then 2 else 3)else 0
def aF(pt n:Nat):Nat:=if pt%4=1\/pt%4=2 then pt/4% (n+1)else if pt%4=3/\0<min (1+pt/4%3) (18-n)then min (1+pt/4%3) (18-n)else 0
theorem zua{pt n:Nat}(J:1<=n)(O:n<=18):inF n (kdF pt n) (aF pt n)=true/\aF pt n<=18/\scF n (kdF pt n) (aF pt n)<=18/\ -18<=scF n (kdF pt n) (aF pt n):=by
 have j:=nR J;have y:=nR O;unfold kdF aF;by_cases H:pt%4=1\/pt%4=2
 ·have U:=Nat.mod_lt (pt/4) (show 0<n+1 by omega);rw[if_pos H,if_pos H];unfold inF scF;rw[j,y,if_neg (by decide),if_pos rfl,if_neg (by decide),if_pos rfl,nR (show pt/4% (n+1)<=n by omega)];exact⟨rfl,by omega,by omega,by omega⟩
 ·rw[if_neg H,if_neg H];by_cases c2:pt%4=3/\0<min (1+pt/4%3) (18-n)
  ·rw[if_pos c2,if_pos c2];have Z:pt/4%3<3:=Nat.mod_lt _ (by decide);have I:=c2.2;generalize hq:min (1+pt/4%3) (18-n)=q at I;have B:q<=3/\n+q<=18:=by omega
   by_cases c3:128<=pt
   ·rw[if_pos c3];unfold inF scF;rw[j,y,if_neg (by decide),if_neg (by decide),if_neg (by decide),if_neg (by decide),if_pos rfl,nR (show 1<=q by omega),nR B.2,nR B.1];exact⟨rfl,by omega,by omega,by omega⟩
   ·rw[if_neg c3];unfold inF scF;rw[j,y,if_neg (by decide),if_neg (by decide),if_neg (by decide),if_neg (by decide),if_neg (by decide),nR (show 1<=q by omega),nR B.2,nR B.1];exact⟨rfl,by omega,by omega,by omega⟩
  ·rw[if_neg c2,if_neg c2];unfold inF scF;rw[j,y,if_pos rfl,if_pos rfl];exact⟨rfl,by omega,by omega,by omega⟩
def shX(n pt fm:Nat):Shape:=shF n (kdF pt n) (aF pt n) (sgF fm) (uF fm) (ldF fm) (spF fm) (qz n (uF fm) (spF fm))
theorem W9{N:Nat}(hN:3000<N){x:F}{fm pt n:Nat}(hf:x.uB=(fm:Int))(U:fm<=255)(j:x.uJ=(pt:Int))(hp2:pt<=255)(h1:1<=n)(hn:n<=18)(H:Shape):∀(k i:Nat),i<=min (1+pt/4%3) (18-n)->min (1+pt/4%3) (18-n)-i<k->
  Yc N k (n:Int) (List.replicate n 57) ((min (1+pt/4%3) (18-n):Nat):Int) (List.replicate i 80) (i:Int) x H (Shape.mk 4 0 [] (n:Int) 0 (sgF fm) false false false false 0)=some (shX n pt fm)
 |0,i,_,hk=>by omega
 |k+1,i,hi,hk=>by
  show Q2 N (Yc N k) _ _ _ _ _ _ _ _=_;unfold Q2;rw[zQ];have hmin:min (1+pt/4%3) (18-n)<=18:=by omega
  by_cases c:i<min (1+pt/4%3) (18-n)
  ·rw[if_pos (by omega),Zg (by simp;omega),za,yU (by omega) (by omega),za,zgC,show(i:Int)+1=((i+1:Nat):Int)by omega];exact W9 hN hf U j hp2 h1 hn H k (i+1) (by omega) (by omega)
  ·have I:i=min (1+pt/4%3) (18-n):=by omega
   rw[if_neg (by omega)];have e0:(zh x.uJ&&decide (0<4))=true:=by rw[j];simp[zh]
   have m1:(x.uJ%4=1)↔pt%4=1:=by rw[j];omega
   have m2:(x.uJ%4=2)↔pt%4=2:=by rw[j];omega
   have m3:(x.uJ%4=3)↔pt%4=3:=by rw[j];omega
   have m4:((128:Int)<=x.uJ)↔128<=pt:=by rw[j];omega
   obtain⟨g1,g2,g3,g4⟩:=zua (pt:=pt) h1 hn;have fin:∀{p:uAS}{sc:Int},p=picF n (kdF pt n) (aF pt n) false->sc=scF n (kdF pt n) (aF pt n)->yA N x H (Shape.mk 4 0 p (n:Int) sc (sgF fm) false false false false 0)=some (shX n pt fm):=
    fun hp hsc=>zjh hf U hn g2 H hp hsc
   have J:(pt%4=1\/pt%4=2)->qK N (n:Int) (List.replicate n 57) ((min (1+pt/4%3) (18-n):Nat):Int) (List.replicate i 80) true x H (Shape.mk 4 0 (List.replicate n 57) (n:Int) 0 (sgF fm) false false false false 0)=some (shX n pt fm):=by
    intro B;have hk:kdF pt n=1:=by unfold kdF;rw[if_pos B]
    have ha:aF pt n=pt/4% (n+1):=by unfold aF;rw[if_pos B]
    have hlt:=Nat.mod_lt (pt/4) (show 0<n+1 by omega);have e1:(zh x.uJ&&decide (0<4)&&zn .u8 (x.uJ/4))=true:=by rw[j,QS (by omega) (by omega)];simp[zh]
    have e2:x.uJ/4=((pt/4:Nat):Int):=by rw[j];omega
    have e3:(zh ((pt/4:Nat):Int)&&decide (0<(n:Int)+1))=true:=by rw[decide_eq_true (show(0:Int)<(n:Int)+1 by omega)];unfold zh;rw[decide_eq_true (Int.natCast_nonneg _)];rfl
    have e4:((pt/4:Nat):Int)% ((n:Int)+1)=((pt/4% (n+1):Nat):Int):=by rw[Int.natCast_emod];rfl
    generalize hq:pt/4% (n+1)=q at hlt ha e4;have e5:(n:Int)-(q:Int)=((n-q:Nat):Int):=by omega
    have O:jb 0 ((n-q:Nat):Int) (List.replicate n (57:UInt8)).length=true:=by unfold jb;simp<;>omega
    have Z:jb ((n-q:Nat):Int) ((List.replicate n (57:UInt8)).length:Int) (List.replicate n (57:UInt8)).length=true:=by unfold jb;simp<;>omega
    have et:YX (List.replicate n (57:UInt8)) ((n-q:Nat):Int)=List.replicate (n-q) 57:=by unfold YX;rw[nA,List.take_replicate];congr 1;omega
    have ed:zbS (List.replicate n (57:UInt8)) ((n-q:Nat):Int)=List.replicate q 57:=by unfold zbS;rw[nA,List.drop_replicate];congr 1;omega
    unfold qK;rw[cond_true,e1,za,e2,yU (by omega) (by omega),za,yU (by omega) (by omega),za,e3,za,e4,e5,yU (by omega) (by omega),za,O,za,et,Zg (by simp;omega),za,za,Z,za,ed,
     Zg (by simp;omega),za]
    refine fin ?_ ?_
    ·rw[hk,ha];rfl
    ·rw[hk,ha];rfl
   have k5f:¬(pt%4=1\/pt%4=2)->qK N (n:Int) (List.replicate n 57) ((min (1+pt/4%3) (18-n):Nat):Int) (List.replicate i 80) false x H (Shape.mk 4 0 (List.replicate n 57) (n:Int) 0 (sgF fm) false false false false 0)=some (shX n pt fm):=by
    intro B;have y:¬(pt%4=3/\0<min (1+pt/4%3) (18-n))->yA N x H (Shape.mk 4 0 (List.replicate n 57) (n:Int) 0 (sgF fm) false false false false 0)=some (shX n pt fm):=by
     intro c2;have hk:kdF pt n=0:=by unfold kdF;rw[if_neg B,if_neg c2]
     have ha:aF pt n=0:=by unfold aF;rw[if_neg B,if_neg c2]
     exact fin (by rw[hk,ha];rfl) (by rw[hk];rfl)
    unfold qK Ye XT;rw[cond_false,e0];simp only[za];rw[zQ];by_cases c3:pt%4=3
    ·rw[if_pos (m3.2 c3),zQ,zQ,zQ,if_pos (m3.2 c3)];by_cases c4:0<min (1+pt/4%3) (18-n)
     ·rw[if_pos (by omega)];have ha:aF pt n=i:=by unfold aF;rw[if_neg B,if_pos ⟨c3,c4⟩,I]
      by_cases c5:128<=pt
      ·have hk:kdF pt n=2:=by unfold kdF;rw[if_neg B,if_pos ⟨c3,c4⟩,if_pos c5]
       rw[if_pos (m4.2 c5),<-I,yU (by omega) (by omega),za,Zg (by simp;omega),za];exact fin (by rw[hk,ha];rfl) (by rw[hk,ha];unfold scF;simp)
      ·have hk:kdF pt n=3:=by unfold kdF;rw[if_neg B,if_pos ⟨c3,c4⟩,if_neg c5]
       rw[if_neg (fun h=>c5 (m4.1 h)),decide_eq_true (show(0:Int)<((min (1+pt/4%3) (18-n):Nat):Int)by omega),cond_true,<-I,yU (by omega) (by omega),za,Zg (by simp;omega),za];exact fin (by rw[hk,ha];rfl) (by rw[hk,ha];rfl)
     ·rw[if_neg (by omega),cond_false,decide_eq_false (show¬(0:Int)<((min (1+pt/4%3) (18-n):Nat):Int)by omega),cond_false];exact y (fun h=>c4 h.2)
    ·rw[if_neg (fun h=>c3 (m3.1 h)),cond_false,zQ,if_neg (fun h=>c3 (m3.1 h)),cond_false];exact y (fun h=>c3 h.1)
   rw[e0,za,za,zQ];by_cases B:pt%4=1
   ·rw[if_pos (m1.2 B)];exact J (.inl B)
   ·rw[if_neg (fun h=>B (m1.1 h))];by_cases c2:pt%4=2
    ·rw[decide_eq_true (m2.2 c2)];exact J (.inr c2)
    ·rw[decide_eq_false (fun h=>c2 (m2.1 h))];exact k5f (by omega)
theorem zaa{N:Nat}(O:3000<N){x:F}{fm pt n:Nat}(J:x.uB=(fm:Int))(y:fm<=255)(j:x.uJ=(pt:Int))(B:pt<=255)(U:1<=n)(Z:n<=18)(I:Shape):∀(k i:Nat),i<=n->n-i<k->
  Yd N k (n:Int) (List.replicate i 57) (i:Int) x I (Shape.mk 4 0 [] (n:Int) 0 (sgF fm) false false false false 0)=some (shX n pt fm)
 |0,i,_,hk=>by omega
 |k+1,i,hi,hk=>by
  show Q3 N (Yd N k) _ _ _ _ _ _=_;unfold Q3;rw[zQ];by_cases c:i<n
  ·rw[if_pos (by omega),Zg (by simp;omega),za,yU (by omega) (by omega),za,zgC,show(i:Int)+1=((i+1:Nat):Int)by omega];exact zaa O J y j B U Z I k (i+1) (by omega) (by omega)
  ·have H:i=n:=by omega
   subst H;have e1:(zh x.uJ&&decide (0<4)&&zn .u8 (x.uJ/4))=true:=by rw[j,QS (by omega) (by omega)];simp[zh]
   have e2:x.uJ/4=((pt/4:Nat):Int):=by rw[j];omega
   have e3:(zh ((pt/4:Nat):Int)&&decide (0<3))=true:=by unfold zh;rw[decide_eq_true (Int.natCast_nonneg _)];rfl
   have e4:(1:Int)+((pt/4:Nat):Int)%3=((1+pt/4%3:Nat):Int):=by omega
   have e5:(18:Int)-(i:Int)=((18-i:Nat):Int):=by omega
   have e6:QE ((1+pt/4%3:Nat):Int) ((18-i:Nat):Int)=((min (1+pt/4%3) (18-i):Nat):Int):=by unfold QE;split<;>omega
   rw[if_neg (by omega),e1,za,e2,yU (by omega) (by omega),za,e3,za,e4,yU (by omega) (by omega),za,e5,yU (by omega) (by omega),za,e6];exact W9 O J y j B U Z I N 0 (by omega) (by omega)
theorem zqo{N:Nat}(U:3000<N){x:F}{dg fm pt:Nat}(I:x.uA=(dg:Int))(j:x.uB=(fm:Int))(B:fm<=255)(y:x.uJ=(pt:Int))(H:pt<=255)(_:dg<=255):zji N x=some (shX (dg%18+1) pt fm):=by
 unfold zji;have e1:(zh x.uA&&decide (0<18))=true:=by rw[I];simp[zh]
 have J:(zh x.uB&&decide (0<2))=true:=by rw[j];simp[zh]
 have Z:x.uA%18=((dg%18:Nat):Int):=by rw[I];omega
 have e4:(1:Int)+((dg%18:Nat):Int)=((dg%18+1:Nat):Int):=by omega
 have O:decide (x.uB%2=1)=sgF fm:=by unfold sgF;rw[j,decide_eq_decide];omega
 rw[e1,za,Z,yU (by omega) (by omega),za,e4,yU (by omega) (by omega),za,J,za,O];exact zaa U j B y H (by omega) (by omega) _ N 0 (by omega) (by omega)
theorem zzV{n pt fm:Nat}(y:1<=n)(j:n<=18):NS (shX n pt fm) n/\zAN (shX n pt fm)=0/\(shX n pt fm).vE.length<=400:=by
 obtain⟨I,B,O,H⟩:=zua (pt:=pt) y j;obtain⟨U,J⟩:=zzW (sg:=sgF fm) (ld:=ldF fm) (sp:=spF fm) (u:=uF fm) I y j B O H (by unfold uF;omega) (by
  rintro(h|h)
  ·unfold ldF at h;simp only[kY,decide_eq_true_eq]at h;unfold uF sgF;exact⟨by omega,decide_eq_true h.1.2⟩
  ·unfold spF at h;simp only[kY,decide_eq_true_eq]at h;unfold uF sgF;exact⟨by omega,decide_eq_true h.1.2⟩)
 refine⟨U,J,?_⟩;have:=(zeW (kd:=kdF pt n) (sg:=sgF fm) j B).1;show(picF n (kdF pt n) (aF pt n) (sgF fm)).length<=400;omega
end Go.Proofs.C06
end
section
set_option maxRecDepth 100000
namespace Go.Proofs.C06
open Go Go.RowKit Go.Vc Go.Am Go.Dg
theorem Kd{N:Nat}{i:Nat}{ng:Bool}{s:uAS}(j:i<s.length)(y:Digs s):Z6 N (i:Int) (if ng then ziK else zoW) s=some (s.set i (letC ng (s.getD i 0))):=by
 have h:=XW y j;have B:(if ng then ziK else zoW).length=10:=by cases ng<;>rfl
 unfold Z6;have e:byteAt s (i:Int)-48=(((s.getD i 0).toNat-48:Nat):Int):=by rw[yh];omega
 rw[qm j,e,ZQ (by omega) (by omega),qm (by omega)];simp only[za,uAc];rw[yh,QS (by omega) (by have:=zA0 ((if ng then ziK else zoW).getD ((s.getD i 0).toNat-48) 0);omega),za,zhz,nA];rfl
theorem Ke{N:Nat}{i:Nat}{ng:Bool}{s:uAS}(j:i<s.length)(y:Digs s):Z7 N ng (i:Int) s=some (s.set i (letC ng (s.getD i 0))):=by
 unfold Z7;cases ng with
 |true=>exact Kd (N:=N) (ng:=true) j y
 |false=>exact Kd (N:=N) (ng:=false) j y
def XZ:uAS->uAS
 |a::c::r=>UInt8.ofNat ((16*a.toNat+c.toNat)%256)::XZ r
 |_=>[]
theorem zkD:∀h,h.length%2=0->(XZ h).length=h.length/2
 |[],_=>rfl
 |[a],h=>by simp at h
 |a::c::r,h=>by simp only[mC]at h;rw[XZ,mC,zkD r (by omega),mC,mC];omega
theorem zgI(a c:UInt8):∀h,h.length%2=0->XZ (h++[a,c])=XZ h++[UInt8.ofNat ((16*a.toNat+c.toNat)%256)]
 |[],_=>rfl
 |[x],h=>by simp at h
 |x::y::r,h=>by
  simp only[mC]at h;show _::XZ (r++[a,c])=_::(XZ r++_)
  rw[zgI a c r (by omega)]
theorem zzb{h:uAS}{t:Nat}(j:t+1<h.length):h.take (t+2)=h.take t++[h.getD t 0,h.getD (t+1) 0]:=by rw[show t+2=t+1+1 by omega,ZU j,ZU (by omega),mB];rfl
theorem znY{a c:UInt8}:(zn .u8 (IntKind.wrap .u8 ((IntKind.wrap .u8 (16*((a.toNat:Nat):Int)))+((c.toNat:Nat):Int)))&&true)=true/\
  ([(IntKind.wrap .u8 ((IntKind.wrap .u8 (16*((a.toNat:Nat):Int)))+((c.toNat:Nat):Int)))].map toByte)=[UInt8.ofNat ((16*a.toNat+c.toNat)%256)]:=by
 have e:IntKind.wrap .u8 ((IntKind.wrap .u8 (16*((a.toNat:Nat):Int)))+((c.toNat:Nat):Int))=(((16*a.toNat+c.toNat)%256:Nat):Int):=by rw[zjV,zjV];omega
 rw[e,QS (by omega) (by omega)];exact⟨rfl,rfl⟩
theorem Kc{N:Nat}{h:uAS}(y:h.length%2=0)(hh:h.length<=600):∀(k t:Nat),2*t<=h.length->h.length-2*t<k->
  yy N k (.inr ((2*t:Nat),XZ (h.take (2*t)),h))=some (XZ h)
 |0,t,_,hk=>by omega
 |k+1,t,ht,hk=>by
  show YA N (yy N k) ((2*t:Nat):Int) (XZ (h.take (2*t))) h=_;unfold YA;rw[zQ];by_cases c:2*t<h.length
  ·obtain⟨H,B⟩:=znY (a:=h.getD (2*t) 0) (c:=h.getD (2*t+1) 0);have j:(XZ (h.take (2*t))).length=t:=by rw[zkD _ (by rw[mH];omega),mH];omega
   rw[if_pos (by omega),qm (by omega),show((2*t:Nat):Int)+1=((2*t+1:Nat):Int)by omega,yU (by omega) (by omega),qm (by omega),yh,yh,H,B];simp only[za];rw[q9 (by rw[kW,j];simp;omega),za,show((2*t:Nat):Int)+2=((2*(t+1):Nat):Int)by omega,yU (by omega) (by omega),za,<-zgI _ _ _ (by rw[mH];omega),<-zzb (by omega)];exact Kc y hh k (t+1) (by omega) (by omega)
  ·rw[if_neg (by omega),nX (by omega)]
theorem ziY{N:Nat}(I:3000<N){h:uAS}(j:h.length%2=0)(H:1<=h.length)(hh:h.length<=600):yy N N (.inl (0,h))=some (XZ h):=by
 obtain⟨k,rfl⟩:∃k,N=k+1:=⟨N-1,by omega⟩
 show YB (k+1) (yy (k+1) k) ((0:Nat):Int) h=_;unfold YB;obtain⟨B,y⟩:=znY (a:=h.getD 0 0) (c:=h.getD 1 0);rw[zQ,if_pos (by omega),qm (by omega),show((0:Nat):Int)+1=((1:Nat):Int)by omega,yU (by omega) (by omega),qm (by omega),yh,yh,B,y];simp only[za];rw[q9 (by simp),za,show((0:Nat):Int)+2=((2*1:Nat):Int)by omega,yU (by omega) (by omega),za];have:=Kc (N:=k+1) j hh k 1 (by omega) (by omega);rw[show XZ (h.take (2*1))=([]:uAS)++[UInt8.ofNat ((16*(h.getD 0 0).toNat+(h.getD 1 0).toNat)%256)]by
  rw[show 2*1=0+2 by omega,zzb (by omega),List.take_zero];rfl]at this
 exact this
def X1(s:uAS):uAS:=s.map fun c=>UInt8.ofNat (c.toNat-48)
theorem YC{N:Nat}(y:3000<N){s:uAS}(H:Digs s)(U:s.length<=100){sg:Nat}(j:sg<16){z:uAS}(O:z.length<=1)(J:(z.length+s.length)%2=1):∀(k i:Nat),i<=s.length->s.length-i<k->
  ZM N k s (sg:Int) (i:Int) (z++X1 (s.take i))=some (XZ (z++X1 s++[UInt8.ofNat sg]))
 |0,i,_,hk=>by omega
 |k+1,i,hi,hk=>by
  show QQ N (ZM N k) s (sg:Int) (i:Int) (z++X1 (s.take i))=_;unfold QQ;have Z:(X1 (s.take i)).length=i:=by unfold X1;rw[mE,mH];omega
  rw[zQ];by_cases c:i<s.length
  ·have h:=XW H c;have e:byteAt s (i:Int)-48=(((s.getD i 0).toNat-48:Nat):Int):=by rw[yh];omega
   have I:(z++X1 (s.take i))++[UInt8.ofNat ((s.getD i 0).toNat-48)]=z++X1 (s.take (i+1)):=by rw[ZU c,mB];unfold X1;rw[mZ];rfl
   rw[if_pos (by omega),qm c,za,e,ZQ (by omega) (by omega),QS (by omega) (by omega),nM,za];show(chk (growOk 1 ((z++X1 (s.take i))++[UInt8.ofNat ((s.getD i 0).toNat-48)]).length)<|chk (zn .i64 ((i:Int)+1))<|ZM N k s (sg:Int) ((i:Int)+1) ((z++X1 (s.take i))++[UInt8.ofNat ((s.getD i 0).toNat-48)]))=_;rw[q9 (by simp;omega),za,yU (by omega) (by omega),za,I,show(i:Int)+1=((i+1:Nat):Int)by omega];exact YC y H U j O J k (i+1) (by omega) (by omega)
  ·have:i=s.length:=by omega
   subst this;have B:(X1 s).length=s.length:=by unfold X1;rw[mE]
   rw[if_neg (by omega),QS (by omega) (by omega),nM,za,List.take_length];show(chk (growOk 1 ((z++X1 s)++[UInt8.ofNat sg]).length)<|yy N N (.inl (0,(z++X1 s)++[UInt8.ofNat sg])))=_;rw[q9 (by simp;omega),za,ziY y (by simp;omega) (by simp;omega) (by simp;omega)]
theorem zir(l:UInt8)(j:l.toNat<16):∀s,s.length%2=1->Digs s->pk l s=XZ (X1 s++[l])
 |[],h,_=>by simp at h
 |[a],_,hd=>by
  have:=hd a (by simp);show[UInt8.ofNat (16*(a.toNat-48)+l.toNat)]=[UInt8.ofNat ((16*(UInt8.ofNat (a.toNat-48)).toNat+l.toNat)%256)]
  rw[UInt8.toNat_ofNat',uAF (show a.toNat-48<2^8 by omega),uAF (by omega)]
 |a::c::r,h,hd=>by
  have ha:=hd a (by simp);have hc:=hd c (by simp);have y:Digs r:=fun x B=>hd x (by simp[B])
  simp only[mC]at h;show UInt8.ofNat (16*(a.toNat-48)+(c.toNat-48))::pk l r=UInt8.ofNat ((16*(UInt8.ofNat (a.toNat-48)).toNat+(UInt8.ofNat (c.toNat-48)).toNat)%256)::XZ (X1 r++[l]);rw[zir l j r (by omega) y,UInt8.toNat_ofNat',UInt8.toNat_ofNat',uAF (show a.toNat-48<2^8 by omega),uAF (show c.toNat-48<2^8 by omega),uAF (by omega)]
theorem YD{N:Nat}(H:3000<N){s:uAS}(B:Digs s)(O:1<=s.length)(I:s.length<=100){sg:Nat}(j:sg<16):J0 N s (sg:Int)=some (pk (UInt8.ofNat sg) (odd s)):=by
 have y:(UInt8.ofNat sg).toNat<16:=by rw[UInt8.toNat_ofNat',uAF (by omega)];exact j
 unfold J0 XJ;have J:(zh ((s.length:Int))&&decide (0<2))=true:=by simp[zh]
 rw[J,za,show decide ((s.length:Int)%2=0)=decide (s.length%2=0)from decide_eq_decide.2 (by omega),zQ];by_cases c:s.length%2=0
 ·have ho:odd s=48::s:=by unfold odd;rw[if_pos c]
  rw[if_pos c,ho,zir _ y _ (by simp;omega) (Digs.cons.2 ⟨by decide,B⟩)];have:=YC (N:=N) H B I j (z:=[0]) (by simp) (by simp;omega) N 0 (by omega) (by omega);exact this
 ·have ho:odd s=s:=by unfold odd;rw[if_neg c]
  rw[if_neg c,ho,zir _ y _ (by omega) B];have:=YC (N:=N) H B I j (z:=[]) (by simp) (by simp;omega) N 0 (by omega) (by omega);exact this
theorem zuX:∀(k v:Nat),be k v=be k (v%256^k)
 |0,_=>rfl
 |k+1,v=>by
  have y:v%256^(k+1)/256=v/256%256^k:=by rw[Nat.pow_succ,Nat.mul_comm,Nat.mod_mul_right_div_self]
  have j:v%256^(k+1)%256=v%256:=by rw[Nat.pow_succ,Nat.mul_comm,Nat.mod_mul_right_mod]
  rw[be,be,y,j,<-zuX k (v/256)]
theorem zlv:∀(t c w:Nat),c<256->w<256^t->be (t+1) (c*256^t+w)=UInt8.ofNat c::be t w
 |0,c,w,hc,hw=>by
  obtain rfl:w=0:=by simpa using hw
  show[UInt8.ofNat ((c*256^0+0)%256)]=[UInt8.ofNat c]
  rw[Nat.pow_zero,nC,uAu,uAF hc]
 |t+1,c,w,hc,hw=>by
  have y:(c*256^(t+1)+w)/256=c*256^t+w/256:=by rw[Nat.pow_succ,<-Nat.mul_assoc];omega
  have j:(c*256^(t+1)+w)%256=w%256:=by rw[Nat.pow_succ,<-Nat.mul_assoc];omega
  rw[be,y,j,zlv t c (w/256) hc (by rw[Nat.pow_succ]at hw;omega)];rfl
theorem WQ{N K:Nat}(U:K<=8):∀(k t:Nat)(y:Int)(b:uAS)(w:Nat),t<=K->K-t<k->b.length=K->w<256^t->b.drop (K-t)=be t w->
  ∃z,JW N k y ((K:Int)-1-(t:Int)) b=some (be K z)/\z<256^K/\∃q:Int,y*((256^t:Nat):Int)+(w:Int)=q*((256^K:Nat):Int)+(z:Int)
 |0,t,_,_,_,_,hk,_,_,_=>by omega
 |k+1,t,y,b,w,ht,hk,hb,hw,hD=>by
  show∃z,QO N (JW N k) y ((K:Int)-1-(t:Int)) b=some (be K z)/\_;unfold QO;rw[zQ];by_cases h:t<K
  ·have e:(K:Int)-1-(t:Int)=((K-1-t:Nat):Int):=by omega
   obtain⟨c,hc⟩:∃c,c=(y%256).toNat:=⟨_,rfl⟩
   have B:y%256=(c:Int):=by omega
   have j:c<256:=by omega
   have I:(b.set (K-1-t) (UInt8.ofNat c)).drop (K-(t+1))=UInt8.ofNat c::b.drop (K-t):=by rw[show K-(t+1)=K-1-t by omega,nH (by rw[List.length_set];omega),List.getElem_set_self,List.drop_set_of_lt (by omega),show K-1-t+1=K-t by omega]
   have hP:=Nat.pow_pos (n:=t) (show 0<256 by decide);have H:c*256^t+w<256^(t+1):=by have:=nE (256^t) (show c<=255 by omega);rw[Nat.pow_succ];omega
   obtain⟨z,O,h2,q,Z⟩:=WQ (N:=N) U k (t+1) (y/256) (b.set (K-1-t) (UInt8.ofNat c)) (c*256^t+w) (by omega) (by omega) (by rw[List.length_set];exact hb) H (by rw[I,hD,zlv t c w j hw]);refine⟨z,?_,h2,q,?_⟩
   ·rw[if_pos (by omega),e,hb,qm (by omega),za,zAR,B,ZQ (by omega) (by omega),QS (by omega) (by omega),nM,za,<-e,yU (by omega) (by omega),za,e,nA,zgp,
     show(2:Int)^(Int.toNat 8)=256 from by decide,show((K-1-t:Nat):Int)-1=(K:Int)-1-((t+1:Nat):Int)by omega]
    exact O
   ·rw[<-Z];have J:y=256*(y/256)+(c:Int):=by omega
    have hp:((256^(t+1):Nat):Int)=256*((256^t:Nat):Int):=by rw[Nat.pow_succ,Int.natCast_mul,Int.mul_comm];rfl
    rw[hp,Int.natCast_add,Int.natCast_mul];generalize ((256^t:Nat):Int)=P;generalize y/256=u at J⊢;subst J;rw[Int.add_mul,Int.mul_comm 256 u,Int.mul_assoc,Int.add_assoc]
  ·obtain rfl:t=K:=by omega
   rw[Nat.sub_self,uAe]at hD;rw[if_neg (by omega)];exact⟨w,by rw[hD],hw,y,rfl⟩
theorem zlX(n:Nat)(sp:Bool):qz n 2 sp=((binW n:Nat):Int):=by
 unfold qz binW;rw[if_neg (by decide),if_pos rfl]
 repeat' split
 all_goals omega
theorem WT{N:Nat}(U:3000<N){s:Shape}{n:Nat}(h:NS s n)(I:s.uM=2){y:Int}{x:Nat}(Z:y%18446744073709551616=(x:Int)):JZ N y s=some (be (binW n) x):=by
 have O:=zyW n;unfold JZ;rw[ze8 N h.dig h.n18,ze,I,zlX];have H:zp2 1 ((binW n:Nat):Int)=true:=by show(Nat.ble (1*binW n) 281474976710656&&Nat.ble (binW n) 9223372036854775807)=true;rw[nR (by omega),nR (by omega)];rfl
 rw[H,decide_eq_true rfl,nM,za,nA,nV,yU (by omega) (by omega),za];obtain⟨z,j,J,q,B⟩:=WQ (N:=N) (K:=binW n) (by omega) N 0 y (List.replicate (binW n) 0) 0 (by omega) (by omega) (by rw[nV]) (by decide) (by rw[Nat.sub_zero,nS (by rw[nV];omega)];rfl);rw[show((binW n:Nat):Int)-1-((0:Nat):Int)=((binW n:Nat):Int)-1 by omega]at j;rw[j,zuX (binW n) x];congr 2;rw[Nat.pow_zero]at B;rcases O with e|e|e<;>rw[e]at J B⊢
 ·rw[show(256:Nat)^2=65536 by decide]at*;omega
 ·rw[show(256:Nat)^4=4294967296 by decide]at*;omega
 ·rw[show(256:Nat)^8=18446744073709551616 by decide]at*;omega
theorem WR{N:Nat}(y:3000<N){s:Shape}{n:Nat}(h:NS s n)(B:s.uM=2){l:uAS}(H:Digs l)(J:l.length=n)(ng:Bool):∀(k i:Nat),i<=n->n-i<k->
  JX N k ng l ((val (l.take i):Nat):Int) (i:Int) s=some (wB (binW n) ng l)
 |0,i,_,hk=>by omega
 |k+1,i,hi,hk=>by
  have j:=h.n18;show QP N (JX N k) ng l ((val (l.take i):Nat):Int) (i:Int) s=_;unfold QP;rw[zQ];have hv:val (l.take i)<10^i:=by have:=zqU (H.take i);rwa [mH,uAR (by omega)]at this
  have O:(10:Nat)^18=1000000000000000000:=by decide
  by_cases c:i<n
  ·have Z:=XW H (i:=i) (by omega);have e:byteAt l (i:Int)-48=(((l.getD i 0).toNat-48:Nat):Int):=by rw[yh];omega
   have hp:(10:Nat)^i<=10^17:=Nat.pow_le_pow_right (by decide) (by omega);have U:(10:Nat)^17=100000000000000000:=by decide
   have I:=WR y h B H J ng k (i+1) (by omega) (by omega);rw[ZU (by omega),zj1]at I;rw[if_pos (by omega),yU (by omega) (by omega),za,qm (by omega),za,e,ZQ (by omega) (by omega),yU (by omega) (by omega),za,yU (by omega) (by omega),za,yU (by omega) (by omega),za,
    show(10:Int)*((val (l.take i):Nat):Int)+(((l.getD i 0).toNat-48:Nat):Int)=((10*val (l.take i)+((l.getD i 0).toNat-48):Nat):Int)by omega,show(i:Int)+1=((i+1:Nat):Int)by omega]
   exact I
  ·obtain rfl:i=n:=by omega
   have hp:(10:Nat)^i<=10^18:=Nat.pow_le_pow_right (by decide) j;rw[if_neg (by omega),nX (by omega)]at*
   unfold wB;cases ng with
   |true=>rw[cond_true,yU (by omega) (by omega),za,if_pos rfl];exact WT y h B (by omega)
   |false=>rw[cond_false,if_neg (by decide)];exact WT y h B (by omega)
theorem YE{N:Nat}(B:3000<N){s:Shape}{n:Nat}(h:NS s n){l:uAS}(y:Digs l)(U:l.length=n){ng:Bool}(H:ng=true->s.uN=true):ZN N ng l s=some (wr s n ng l):=by
 have Z:=h.n18;have h1:=h.n1;unfold ZN wr;rcases h.use with u|u|u
 ·rw[u,show decide ((0:Int)=1)=false by decide,show decide ((0:Int)=2)=false by decide,cond_false,cond_false];cases j:s.uS with
  |true=>rw[cond_true,if_pos rfl];unfold YF wS;rw[show([45]:List Int).map toByte=[45]from rfl,show([43]:List Int).map toByte=[43]from rfl,q9 (by simp;omega),q9 (by simp;omega),q9 (by simp;omega),q9 (by simp;omega)];cases ng<;>cases s.vF<;>rfl
  |false=>
   rw[cond_false,if_neg (by decide),if_pos rfl];unfold wZ sgnAt;cases hS:s.uN with
   |false=>rfl
   |true=>
    rw[cond_true,if_pos rfl,yU (by omega) (by omega),za];cases s.vF with
    |true=>exact Ke (i:=0) (by omega) y
    |false=>rw[cond_false,show(l.length:Int)-1=((n-1:Nat):Int)by omega];exact Ke (i:=n-1) (by omega) y
 ·have j:s.uS=false:=by
   cases hp:s.uS with
   |false=>rfl
   |true=>have:=(h.sep (.inr hp)).1;omega
  rw[u,j,decide_eq_true rfl,cond_true,if_neg (by decide),if_neg (by decide),if_pos rfl];unfold XK wP;have I:=YD B y (by omega) (by omega) (sg:=12) (by decide);have J:=YD B y (by omega) (by omega) (sg:=13) (by decide);have O:=YD B y (by omega) (by omega) (sg:=15) (by decide);cases ng with
  |true=>rw[H rfl];exact J
  |false=>
   cases s.uN with
   |true=>exact I
   |false=>exact O
 ·have j:s.uS=false:=by
   cases hp:s.uS with
   |false=>rfl
   |true=>have:=(h.sep (.inr hp)).1;omega
  rw[u,j,show decide ((2:Int)=1)=false by decide,decide_eq_true rfl,cond_false,cond_true,if_neg (by decide),if_neg (by decide),if_neg (by decide)];have:=WR B h u y U ng N 0 (by omega) (by omega);rw[List.take_zero]at this;exact this
theorem WS{N:Nat}(H:3000<N){s:Shape}{n:Nat}(h:NS s n){l:uAS}(y:Digs l)(B:l.length=n)(j:Bool):∀(k i:Nat),i<=n->n-i<k->
  JY N k j l (decide (val (l.take i)=0)) (i:Int) s=some (wr s n (j&&(s.uN&&decide (val l≠0))) l)
 |0,i,_,hk=>by omega
 |k+1,i,hi,hk=>by
  have O:=h.n18;show QR N (JY N k) j l (decide (val (l.take i)=0)) (i:Int) s=_;unfold QR;rw[zQ];by_cases c:i<n
  ·have U:=XW y (i:=i) (by omega);have I:=WS H h y B j k (i+1) (by omega) (by omega);rw[ZU (by omega),zj1]at I;rw[if_pos (by omega),qm (by omega),za,yU (by omega) (by omega),za,za,yh,show(i:Int)+1=((i+1:Nat):Int)by omega,zQ];by_cases z:val (l.take i)=0
   ·rw[if_pos z,show decide ((((l.getD i 0).toNat:Nat):Int)=48)=decide (10*val (l.take i)+((l.getD i 0).toNat-48)=0)from decide_eq_decide.2 (by omega)];exact I
   ·rw[if_neg z,show false=decide (10*val (l.take i)+((l.getD i 0).toNat-48)=0)from(decide_eq_false (by omega)).symm];exact I
  ·obtain rfl:i=n:=by omega
   rw[if_neg (by omega),nX (by omega)];have J:(!decide (val l=0))=decide (val l≠0):=by by_cases z:val l=0<;>simp[z]
   rw[J];cases j with
   |false=>exact YE H h y B (fun e=>by cases e)
   |true=>
    cases hS:s.uN with
    |false=>exact YE H h y B (fun e=>by cases e)
    |true=>rw[cond_true,cond_true,uAc,uAc];exact YE H h y B (fun _=>hS)
theorem zqa{N:Nat}(H:3000<N){s:Shape}{n:Nat}(h:NS s n){l:uAS}(I:Digs l)(y:l.length=n)(j:Bool):ziZ N j l s=some (wr s n (j&&(s.uN&&decide (val l≠0))) l):=by have B:=h.n18;unfold ziZ;exact WS H h I y j N 0 (by omega) (by omega)
end Go.Proofs.C06
end
