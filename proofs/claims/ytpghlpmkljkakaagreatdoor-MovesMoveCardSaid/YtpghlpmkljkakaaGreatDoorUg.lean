/-
  A part of the proof of the laws on moves.
-/
import Derived.Test.YtpghlpmkljkakaaGreatDoorUd
import Derived.Test.YtpghlpmkljkakaaGreatDoorUa
section
set_option maxRecDepth 100000
namespace Go.Proofs.C06
open Go Go.RowKit Go.Vc Go.Am Go.Dg
def picF(n kd a:Nat)(sg:Bool):List UInt8:=(if sg then[83]else[])++(if kd=0 then List.replicate n 57 else if kd=1 then List.replicate (n-a) 57++[86]++List.replicate a 57 else if kd=2 then List.replicate a 80++List.replicate n 57 else List.replicate n 57++List.replicate a 80)
def scF(n kd a:Nat):Int:=if kd=0 then 0 else if kd=1 then(a:Int)else if kd=2 then((n+a:Nat):Int)else-(a:Int)
def inF(n kd a:Nat):Bool:=Nat.ble 1 n&&Nat.ble n 18&&Nat.ble kd 3&&(if kd=0 then Nat.beq a 0 else if kd=1 then Nat.ble a n else Nat.ble 1 a&&Nat.ble (n+a) 18&&Nat.ble a 3)
def okF(n kd a:Nat)(sg:Bool):Bool:=!inF n kd a||(decide (parS (picF n kd a sg)=(jM (picF n kd a sg) sg n (scF n kd a),0))&&(picF n kd a sg).all (syms.contains ·))
def znL(n:Nat)(f:Nat→Bool):Bool:=(List.range n).all f
theorem zdW{n:Nat}{f:Nat→Bool}(h:znL n f=true){i:Nat}(hi:i<n):f i=true:=List.all_eq_true.1 h i (List.mem_range.2 hi)
theorem zsN:(znL 19 fun n=>znL 4 fun kd=>znL 19 fun a=>okF n kd a true&&okF n kd a false)=true:=by kernel_rfl
theorem zt8{n kd a:Nat}{sg:Bool}(h:inF n kd a=true):parS (picF n kd a sg)=(jM (picF n kd a sg) sg n (scF n kd a),0)∧∀c∈picF n kd a sg,syms.contains c=true:=by
 have h1:n≤18∧kd≤3∧a≤18:=by
  unfold inF at h;simp only[Bool.and_eq_true,Nat.ble_eq]at h;obtain⟨⟨⟨h1,h2⟩,h3⟩,h4⟩:=h;refine⟨h2,h3,?_⟩;split at h4
  ·have:=Nat.eq_of_beq_eq_true h4;omega
  ·split at h4
   ·rw[Nat.ble_eq]at h4;omega
   ·simp only[Bool.and_eq_true,Nat.ble_eq]at h4;omega
 have:=zdW (zdW (zdW zsN (show n<19 by omega)) (show kd<4 by omega)) (show a<19 by omega);rw[Bool.and_eq_true]at this;have hk:okF n kd a sg=true:=by cases sg;exact this.2;exact this.1
 unfold okF at hk;rw[h,Bool.not_true,Bool.false_or,Bool.and_eq_true]at hk;exact⟨of_decide_eq_true hk.1,fun c hc=>List.all_eq_true.1 hk.2 c hc⟩
theorem zel{n kd a:Nat}{sg:Bool}(h1:n≤18)(h2:a≤18):(picF n kd a sg).length≤60∧(1≤n→picF n kd a sg≠[]):=by
 have hl:(picF n kd a sg).length=(if sg then 1 else 0)+(if kd=0 then n else if kd=1 then n-a+1+a else if kd=2 then a+n else n+a):=by
  unfold picF;rw[List.length_append];congr 1
  ·cases sg<;>rfl
  ·split
   ·simp
   ·split
    ·simp<;>omega
    ·split<;>simp
 constructor
 ·rw[hl]
  repeat' split
  all_goals omega
 ·intro hn e;have:(picF n kd a sg).length=0:=by rw[e];rfl
  rw[hl]at this;revert this
  repeat' split
  all_goals omega
theorem zo8{n kd a:Nat}{sg:Bool}(h:inF n kd a=true)(h1:1≤n)(h2:n≤18)(h3:a≤18):jW (picF n kd a sg)=(jM (picF n kd a sg) sg n (scF n kd a),0):=by obtain⟨k1,k2⟩:=zt8 (sg:=sg) h;obtain⟨l,e1,e2⟩:=WA _ k2;obtain⟨p1,p2⟩:=zel (kd:=kd) (sg:=sg) h2 h3;unfold jW;rw[e1,zrv e2 (p2 h1) (by omega),if_pos rfl];exact k1
def shF(n kd a:Nat)(sg:Bool)(u:Int)(ld sp:Bool)(sz:Int):Shape:=Shape.mk 4 u (picF n kd a sg) (n:Int) (scF n kd a) sg ld sp false false sz
def qI(n:Nat)(u:Int)(sp:Bool):Int:=if u=1 then(n:Int)/2+1 else if u=2 then(if(n:Int)≤4 then 2 else if(n:Int)≤9 then 4 else 8)else if sp=true then(n:Int)+1 else(n:Int)
theorem zt1{n kd a:Nat}{sg ld sp:Bool}{u:Int}(h:inF n kd a=true)(h1:1≤n)(h2:n≤18)(h3:a≤18)(hsc:scF n kd a≤18)(hsc2: -18≤scF n kd a)(hu:u=0∨u=1∨u=2)(hs:ld=true∨sp=true→u=0∧sg=true):
  NS (shF n kd a sg u ld sp (qI n u sp)) n∧chkV (shF n kd a sg u ld sp (qI n u sp))=0:=by
 have hsz:(shF n kd a sg u ld sp (qI n u sp)).Size=sizeV (shF n kd a sg u ld sp (qI n u sp)):=by unfold sizeV;rw[if_neg (by show¬((4:Int)=0);decide),if_neg (by show¬((4:Int)≠4);decide)];rfl
 refine⟨⟨rfl,h1,h2,rfl,hu,hsc2,hsc,hs,hsz⟩,?_⟩;have hE:yF (shF n kd a sg u ld sp (qI n u sp))=0:=by
  unfold yF;rw[if_neg,if_neg,if_neg]
  ·rintro⟨_,h⟩;have:((n:Int))<1∨18<(n:Int):=h;omega
  ·rintro⟨h,_⟩;have:(4:Int)=0:=h;omega
  ·rintro(h|h)
   ·have:(5:Int)<4:=h;omega
   ·have:(2:Int)<u:=h;omega
 have hP:=zo8 (sg:=sg) h h1 h2 h3;unfold chkV;rw[if_neg (fun h=>h hE),if_neg (by show¬((4:Int)=0);decide)];unfold zc7;have hpic:(shF n kd a sg u ld sp (qI n u sp)).Picture=picF n kd a sg:=rfl;rw[hpic,hP,if_neg (by simp),if_neg (by show¬(picF n kd a sg≠picF n kd a sg);simp)];have hbad:decide ((jM (picF n kd a sg) sg n (scF n kd a),(0:Int)).1.Category≠(shF n kd a sg u ld sp (qI n u sp)).Category∨(jM (picF n kd a sg) sg n (scF n kd a),(0:Int)).1.Digits≠(shF n kd a sg u ld sp (qI n u sp)).Digits∨
   (jM (picF n kd a sg) sg n (scF n kd a),(0:Int)).1.Scale≠(shF n kd a sg u ld sp (qI n u sp)).Scale∨(jM (picF n kd a sg) sg n (scF n kd a),(0:Int)).1.Signed≠(shF n kd a sg u ld sp (qI n u sp)).Signed)=false:=by
  apply decide_eq_false;rintro(h|h|h|h)<;>exact h rfl
 rw[hbad];unfold Xk;rw[if_neg (by simp),if_neg,if_neg,if_neg,if_neg,if_pos hsz]
 ·rintro⟨h,_⟩;cases h
 ·rintro⟨h,_⟩;cases h
 ·rintro⟨hl,hr⟩;have hl:ld=true∨sp=true:=hl;obtain⟨e1,e2⟩:=hs hl;rcases hr with h|h|h
  ·exact h rfl
  ·exact h e1
  ·have h:sg=false:=h;rw[e2]at h;cases h
 ·rintro⟨_,h⟩;exact h rfl
theorem zeK(N:Nat){s:Shape}{n:Nat}(hd:s.Digits=(n:Int))(hn:n≤18):zg7 N s=some (qI n s.Usage s.Separate):=by
 unfold zg7 zaG zaF qI;rw[hd];have e0:(ze (n:Int)&&decide (0<2)&&inKb .i64 ((n:Int)/2))=true:=by rw[zg (by omega) (by omega)];simp[ze]
 rw[e0,za,zg (by omega) (by omega),za,zb];by_cases u1:s.Usage=1
 ·rw[if_pos u1,if_pos u1]
 ·rw[if_neg u1,if_neg u1,zb];by_cases u2:s.Usage=2
  ·rw[if_pos u2,if_pos u2,zb];by_cases h4:(n:Int)<5
   ·rw[if_pos h4,if_pos (by omega)]
   ·rw[if_neg h4,if_neg (by omega),zb,if_pos u2,zb];by_cases h9:(n:Int)<10
    ·rw[if_pos h9,if_pos (by omega)]
    ·rw[if_neg h9,if_neg (by omega),zb,if_pos u2]
  ·rw[if_neg u2,if_neg u2,cond_false,zb,if_neg u2,cond_false,zb,if_neg u2];cases s.Separate with
   |true=>rw[cond_true,zg (by omega) (by omega),za,if_pos rfl]
   |false=>rw[cond_false,if_neg (by simp)]
end Go.Proofs.C06
end
section
set_option maxRecDepth 100000
namespace Go.Proofs.C06
open Go Go.RowKit Go.Vc Go.Am Go.Dg
theorem zgT(n:Nat)(c:UInt8):List.replicate n c++[c]=List.replicate (n+1) c:=List.replicate_succ'.symm
theorem zaY{N:Nat}{x:F}{fm n kd a:Nat}{sg:Bool}{u:Int}(hf:x.Form=(fm:Int))(hfm:fm≤255)(hn:n≤18)(b1:Shape)(t:Bool):
  YS N t x b1 (shF n kd a sg u false false 0)=some (shF n kd a sg u (t&&decide (fm/8%2=1)) (t&&decide (fm/16%2=1)) (qI n u (t&&decide (fm/16%2=1)))):=by
 unfold YS;cases t with
 |false=>rw[cond_false,zeK N (n:=n) rfl hn,zc];rfl
 |true=>
  have e1:(ze x.Form&&decide (0<8)&&inKb .u8 (x.Form/8))=true:=by rw[hf,Zq (by omega) (by omega)];simp[ze]
  have e2:(ze x.Form&&decide (0<16)&&inKb .u8 (x.Form/16))=true:=by rw[hf,Zq (by omega) (by omega)];simp[ze]
  have e3:(ze (x.Form/8)&&decide (0<2))=true:=by rw[hf];simp[ze];omega
  have e4:(ze (x.Form/16)&&decide (0<2))=true:=by rw[hf];simp[ze];omega
  have e5:decide (x.Form/8%2=1)=decide (fm/8%2=1):=by rw[hf,decide_eq_decide];omega
  have e6:decide (x.Form/16%2=1)=decide (fm/16%2=1):=by rw[hf,decide_eq_decide];omega
  rw[cond_true,e1,za,e3,za,e2,za,e4,za,e5,e6,zeK N (n:=n) rfl hn,zc,Bool.true_and,Bool.true_and];rfl
def uF(fm:Nat):Int:=((fm/2%3:Nat):Int)
def ldF(fm:Nat):Bool:=decide (fm/2%3=0)&&decide (fm%2=1)&&decide (fm/8%2=1)
def spF(fm:Nat):Bool:=decide (fm/2%3=0)&&decide (fm%2=1)&&decide (fm/16%2=1)
def sgF(fm:Nat):Bool:=decide (fm%2=1)
theorem ziK{N:Nat}{x:F}{fm n kd a:Nat}(hf:x.Form=(fm:Int))(hfm:fm≤255)(hn:n≤18)(b1:Shape):
  YT N x b1 (shF n kd a (sgF fm) 0 false false 0)=some (shF n kd a (sgF fm) (uF fm) (ldF fm) (spF fm) (qI n (uF fm) (spF fm))):=by
 unfold YT;have e1:(ze x.Form&&decide (0<2)&&inKb .u8 (x.Form/2))=true:=by rw[hf,Zq (by omega) (by omega)];simp[ze]
 have e2:(ze (x.Form/2)&&decide (0<3))=true:=by rw[hf];simp[ze];omega
 have e3:x.Form/2%3=uF fm:=by rw[hf];unfold uF;omega
 rw[e1,za,e2,za,e3,zb];have h1:=zaY (N:=N) (kd:=kd) (a:=a) (sg:=sgF fm) (u:=uF fm) hf hfm hn b1 (sgF fm);have h2:=zaY (N:=N) (kd:=kd) (a:=a) (sg:=sgF fm) (u:=uF fm) hf hfm hn b1 false;unfold ldF spF;by_cases h0:fm/2%3=0
 ·rw[if_pos (by unfold uF;omega),decide_eq_true h0,Bool.true_and];exact h1
 ·rw[if_neg (by unfold uF;omega),decide_eq_false h0,Bool.false_and];exact h2
theorem zsL(n kd a:Nat):picF n kd a true=[83]++picF n kd a false:=by unfold picF;rfl
theorem ziL{N:Nat}{x:F}{fm n kd a:Nat}(hf:x.Form=(fm:Int))(hfm:fm≤255)(hn:n≤18)(ha:a≤18)(b1:Shape){p:List UInt8}(hp:p=picF n kd a false){sc:Int}(hsc:sc=scF n kd a):
  yA N x b1 (Shape.mk 4 0 p (n:Int) sc (sgF fm) false false false false 0)=some (shF n kd a (sgF fm) (uF fm) (ldF fm) (spF fm) (qI n (uF fm) (spF fm))):=by
 subst hp hsc;have hl:=(zel (kd:=kd) (sg:=false) hn ha).1;unfold yA;have h3:=ziK (N:=N) (kd:=kd) (a:=a) hf hfm hn b1;unfold shF at h3⊢;cases hs:sgF fm with
 |true=>rw[hs]at h3;rw[cond_true,zN (by show 1+(picF n kd a false).length≤1000000;omega),za,←zsL];exact h3
 |false=>rw[hs]at h3;rw[cond_false];exact h3
def kdF(pt n:Nat):Nat:=if pt%4=1∨pt%4=2 then 1 else if pt%4=3∧0<min (1+pt/4%3) (18-n)then(if 128≤pt then 2 else 3)else 0
def aF(pt n:Nat):Nat:=if pt%4=1∨pt%4=2 then pt/4% (n+1)else if pt%4=3∧0<min (1+pt/4%3) (18-n)then min (1+pt/4%3) (18-n)else 0
theorem zrh{pt n:Nat}(h1:1≤n)(h2:n≤18):inF n (kdF pt n) (aF pt n)=true∧aF pt n≤18∧scF n (kdF pt n) (aF pt n)≤18∧ -18≤scF n (kdF pt n) (aF pt n):=by
 have hb1:=Nat.ble_eq_true_of_le h1;have hb2:=Nat.ble_eq_true_of_le h2;unfold kdF aF;by_cases c1:pt%4=1∨pt%4=2
 ·have hlt:=Nat.mod_lt (pt/4) (show 0<n+1 by omega);rw[if_pos c1,if_pos c1];unfold inF scF;rw[hb1,hb2,if_neg (by decide),if_pos rfl,if_neg (by decide),if_pos rfl,Nat.ble_eq_true_of_le (show pt/4% (n+1)≤n by omega)];exact⟨rfl,by omega,by omega,by omega⟩
 ·rw[if_neg c1,if_neg c1];by_cases c2:pt%4=3∧0<min (1+pt/4%3) (18-n)
  ·rw[if_pos c2,if_pos c2];have hm:pt/4%3<3:=Nat.mod_lt _ (by decide);have hm0:=c2.2;generalize hq:min (1+pt/4%3) (18-n)=q at hm0;have q3:q≤3∧n+q≤18:=by omega
   by_cases c3:128≤pt
   ·rw[if_pos c3];unfold inF scF;rw[hb1,hb2,if_neg (by decide),if_neg (by decide),if_neg (by decide),if_neg (by decide),if_pos rfl,Nat.ble_eq_true_of_le (show 1≤q by omega),Nat.ble_eq_true_of_le q3.2,Nat.ble_eq_true_of_le q3.1];exact⟨rfl,by omega,by omega,by omega⟩
   ·rw[if_neg c3];unfold inF scF;rw[hb1,hb2,if_neg (by decide),if_neg (by decide),if_neg (by decide),if_neg (by decide),if_neg (by decide),Nat.ble_eq_true_of_le (show 1≤q by omega),Nat.ble_eq_true_of_le q3.2,Nat.ble_eq_true_of_le q3.1];exact⟨rfl,by omega,by omega,by omega⟩
  ·rw[if_neg c2,if_neg c2];unfold inF scF;rw[hb1,hb2,if_pos rfl,if_pos rfl];exact⟨rfl,by omega,by omega,by omega⟩
def shX(n pt fm:Nat):Shape:=shF n (kdF pt n) (aF pt n) (sgF fm) (uF fm) (ldF fm) (spF fm) (qI n (uF fm) (spF fm))
theorem zaW{N:Nat}(hN:3000<N){x:F}{fm pt n:Nat}(hf:x.Form=(fm:Int))(hfm:fm≤255)(hpt:x.Point=(pt:Int))(hp2:pt≤255)(h1:1≤n)(hn:n≤18)(b1:Shape):∀(k i:Nat),i≤min (1+pt/4%3) (18-n)→min (1+pt/4%3) (18-n)-i<k→
  YP N k (n:Int) (List.replicate n 57) ((min (1+pt/4%3) (18-n):Nat):Int) (List.replicate i 80) (i:Int) x b1 (Shape.mk 4 0 [] (n:Int) 0 (sgF fm) false false false false 0)=some (shX n pt fm)
 |0,i,_,hk=>by omega
 |k+1,i,hi,hk=>by
  show X8 N (YP N k) _ _ _ _ _ _ _ _=_;unfold X8;rw[zb];have hmin:min (1+pt/4%3) (18-n)≤18:=by omega
  by_cases c:i<min (1+pt/4%3) (18-n)
  ·rw[if_pos (by omega),zN (by simp;omega),za,zg (by omega) (by omega),za,zgT,show(i:Int)+1=((i+1:Nat):Int)by omega];exact zaW hN hf hfm hpt hp2 h1 hn b1 k (i+1) (by omega) (by omega)
  ·have hie:i=min (1+pt/4%3) (18-n):=by omega
   rw[if_neg (by omega)];have e0:(ze x.Point&&decide (0<4))=true:=by rw[hpt];simp[ze]
   have m1:(x.Point%4=1)↔pt%4=1:=by rw[hpt];omega
   have m2:(x.Point%4=2)↔pt%4=2:=by rw[hpt];omega
   have m3:(x.Point%4=3)↔pt%4=3:=by rw[hpt];omega
   have m4:((128:Int)≤x.Point)↔128≤pt:=by rw[hpt];omega
   obtain⟨g1,g2,g3,g4⟩:=zrh (pt:=pt) h1 hn;have fin:∀{p:List UInt8}{sc:Int},p=picF n (kdF pt n) (aF pt n) false→sc=scF n (kdF pt n) (aF pt n)→yA N x b1 (Shape.mk 4 0 p (n:Int) sc (sgF fm) false false false false 0)=some (shX n pt fm):=
    fun hp hsc=>ziL hf hfm hn g2 b1 hp hsc
   have k5t:(pt%4=1∨pt%4=2)→qV N (n:Int) (List.replicate n 57) ((min (1+pt/4%3) (18-n):Nat):Int) (List.replicate i 80) true x b1 (Shape.mk 4 0 (List.replicate n 57) (n:Int) 0 (sgF fm) false false false false 0)=some (shX n pt fm):=by
    intro c1;have hk:kdF pt n=1:=by unfold kdF;rw[if_pos c1]
    have ha:aF pt n=pt/4% (n+1):=by unfold aF;rw[if_pos c1]
    have hlt:=Nat.mod_lt (pt/4) (show 0<n+1 by omega);have e1:(ze x.Point&&decide (0<4)&&inKb .u8 (x.Point/4))=true:=by rw[hpt,Zq (by omega) (by omega)];simp[ze]
    have e2:x.Point/4=((pt/4:Nat):Int):=by rw[hpt];omega
    have e3:(ze ((pt/4:Nat):Int)&&decide (0<(n:Int)+1))=true:=by rw[decide_eq_true (show(0:Int)<(n:Int)+1 by omega)];unfold ze;rw[decide_eq_true (Int.natCast_nonneg _)];rfl
    have e4:((pt/4:Nat):Int)% ((n:Int)+1)=((pt/4% (n+1):Nat):Int):=by rw[Int.natCast_emod];rfl
    generalize hq:pt/4% (n+1)=q at hlt ha e4;have e5:(n:Int)-(q:Int)=((n-q:Nat):Int):=by omega
    have hin1:zj 0 ((n-q:Nat):Int) (List.replicate n (57:UInt8)).length=true:=by unfold zj;simp<;>omega
    have hin2:zj ((n-q:Nat):Int) ((List.replicate n (57:UInt8)).length:Int) (List.replicate n (57:UInt8)).length=true:=by unfold zj;simp<;>omega
    have et:zZ (List.replicate n (57:UInt8)) ((n-q:Nat):Int)=List.replicate (n-q) 57:=by unfold zZ;rw[Int.toNat_natCast,List.take_replicate];congr 1;omega
    have ed:zI (List.replicate n (57:UInt8)) ((n-q:Nat):Int)=List.replicate q 57:=by unfold zI;rw[Int.toNat_natCast,List.drop_replicate];congr 1;omega
    unfold qV;rw[cond_true,e1,za,e2,zg (by omega) (by omega),za,zg (by omega) (by omega),za,e3,za,e4,e5,zg (by omega) (by omega),za,hin1,za,et,zN (by simp;omega),za,za,hin2,za,ed,
     zN (by simp;omega),za]
    refine fin ?_ ?_
    ·rw[hk,ha];rfl
    ·rw[hk,ha];rfl
   have k5f:¬(pt%4=1∨pt%4=2)→qV N (n:Int) (List.replicate n 57) ((min (1+pt/4%3) (18-n):Nat):Int) (List.replicate i 80) false x b1 (Shape.mk 4 0 (List.replicate n 57) (n:Int) 0 (sgF fm) false false false false 0)=some (shX n pt fm):=by
    intro c1;have plain0:¬(pt%4=3∧0<min (1+pt/4%3) (18-n))→yA N x b1 (Shape.mk 4 0 (List.replicate n 57) (n:Int) 0 (sgF fm) false false false false 0)=some (shX n pt fm):=by
     intro c2;have hk:kdF pt n=0:=by unfold kdF;rw[if_neg c1,if_neg c2]
     have ha:aF pt n=0:=by unfold aF;rw[if_neg c1,if_neg c2]
     exact fin (by rw[hk,ha];rfl) (by rw[hk];rfl)
    unfold qV YR Va;rw[cond_false,e0];simp only[za];rw[zb];by_cases c3:pt%4=3
    ·rw[if_pos (m3.2 c3),zb,zb,zb,if_pos (m3.2 c3)];by_cases c4:0<min (1+pt/4%3) (18-n)
     ·rw[if_pos (by omega)];have ha:aF pt n=i:=by unfold aF;rw[if_neg c1,if_pos ⟨c3,c4⟩,hie]
      by_cases c5:128≤pt
      ·have hk:kdF pt n=2:=by unfold kdF;rw[if_neg c1,if_pos ⟨c3,c4⟩,if_pos c5]
       rw[if_pos (m4.2 c5),←hie,zg (by omega) (by omega),za,zN (by simp;omega),za];exact fin (by rw[hk,ha];rfl) (by rw[hk,ha];unfold scF;simp)
      ·have hk:kdF pt n=3:=by unfold kdF;rw[if_neg c1,if_pos ⟨c3,c4⟩,if_neg c5]
       rw[if_neg (fun h=>c5 (m4.1 h)),decide_eq_true (show(0:Int)<((min (1+pt/4%3) (18-n):Nat):Int)by omega),cond_true,←hie,zg (by omega) (by omega),za,zN (by simp;omega),za];exact fin (by rw[hk,ha];rfl) (by rw[hk,ha];rfl)
     ·rw[if_neg (by omega),cond_false,decide_eq_false (show¬(0:Int)<((min (1+pt/4%3) (18-n):Nat):Int)by omega),cond_false];exact plain0 (fun h=>c4 h.2)
    ·rw[if_neg (fun h=>c3 (m3.1 h)),cond_false,zb,if_neg (fun h=>c3 (m3.1 h)),cond_false];exact plain0 (fun h=>c3 h.1)
   rw[e0,za,za,zb];by_cases c1:pt%4=1
   ·rw[if_pos (m1.2 c1)];exact k5t (.inl c1)
   ·rw[if_neg (fun h=>c1 (m1.1 h))];by_cases c2:pt%4=2
    ·rw[decide_eq_true (m2.2 c2)];exact k5t (.inr c2)
    ·rw[decide_eq_false (fun h=>c2 (m2.1 h))];exact k5f (by omega)
theorem zaX{N:Nat}(hN:3000<N){x:F}{fm pt n:Nat}(hf:x.Form=(fm:Int))(hfm:fm≤255)(hpt:x.Point=(pt:Int))(hp2:pt≤255)(h1:1≤n)(hn:n≤18)(b1:Shape):∀(k i:Nat),i≤n→n-i<k→
  YQ N k (n:Int) (List.replicate i 57) (i:Int) x b1 (Shape.mk 4 0 [] (n:Int) 0 (sgF fm) false false false false 0)=some (shX n pt fm)
 |0,i,_,hk=>by omega
 |k+1,i,hi,hk=>by
  show X9 N (YQ N k) _ _ _ _ _ _=_;unfold X9;rw[zb];by_cases c:i<n
  ·rw[if_pos (by omega),zN (by simp;omega),za,zg (by omega) (by omega),za,zgT,show(i:Int)+1=((i+1:Nat):Int)by omega];exact zaX hN hf hfm hpt hp2 h1 hn b1 k (i+1) (by omega) (by omega)
  ·have hie:i=n:=by omega
   subst hie;have e1:(ze x.Point&&decide (0<4)&&inKb .u8 (x.Point/4))=true:=by rw[hpt,Zq (by omega) (by omega)];simp[ze]
   have e2:x.Point/4=((pt/4:Nat):Int):=by rw[hpt];omega
   have e3:(ze ((pt/4:Nat):Int)&&decide (0<3))=true:=by unfold ze;rw[decide_eq_true (Int.natCast_nonneg _)];rfl
   have e4:(1:Int)+((pt/4:Nat):Int)%3=((1+pt/4%3:Nat):Int):=by omega
   have e5:(18:Int)-(i:Int)=((18-i:Nat):Int):=by omega
   have e6:Vq ((1+pt/4%3:Nat):Int) ((18-i:Nat):Int)=((min (1+pt/4%3) (18-i):Nat):Int):=by unfold Vq;split<;>omega
   rw[if_neg (by omega),e1,za,e2,zg (by omega) (by omega),za,e3,za,e4,zg (by omega) (by omega),za,e5,zg (by omega) (by omega),za,e6];exact zaW hN hf hfm hpt hp2 h1 hn b1 N 0 (by omega) (by omega)
theorem zhj{N:Nat}(hN:3000<N){x:F}{dg fm pt:Nat}(hd:x.Digits=(dg:Int))(hf:x.Form=(fm:Int))(hfm:fm≤255)(hpt:x.Point=(pt:Int))(hp2:pt≤255)(_hd2:dg≤255):Jx N x=some (shX (dg%18+1) pt fm):=by
 unfold Jx;have e1:(ze x.Digits&&decide (0<18))=true:=by rw[hd];simp[ze]
 have e2:(ze x.Form&&decide (0<2))=true:=by rw[hf];simp[ze]
 have e3:x.Digits%18=((dg%18:Nat):Int):=by rw[hd];omega
 have e4:(1:Int)+((dg%18:Nat):Int)=((dg%18+1:Nat):Int):=by omega
 have e5:decide (x.Form%2=1)=sgF fm:=by unfold sgF;rw[hf,decide_eq_decide];omega
 rw[e1,za,e3,zg (by omega) (by omega),za,e4,zg (by omega) (by omega),za,e2,za,e5];exact zaX hN hf hfm hpt hp2 (by omega) (by omega) _ N 0 (by omega) (by omega)
theorem zqx{n pt fm:Nat}(h1:1≤n)(hn:n≤18):NS (shX n pt fm) n∧chkV (shX n pt fm)=0∧(shX n pt fm).Picture.length≤400:=by
 obtain⟨g1,g2,g3,g4⟩:=zrh (pt:=pt) h1 hn;obtain⟨a1,a2⟩:=zt1 (sg:=sgF fm) (ld:=ldF fm) (sp:=spF fm) (u:=uF fm) g1 h1 hn g2 g3 g4 (by unfold uF;omega) (by
  rintro(h|h)
  ·unfold ldF at h;simp only[Bool.and_eq_true,decide_eq_true_eq]at h;unfold uF sgF;exact⟨by omega,decide_eq_true h.1.2⟩
  ·unfold spF at h;simp only[Bool.and_eq_true,decide_eq_true_eq]at h;unfold uF sgF;exact⟨by omega,decide_eq_true h.1.2⟩)
 refine⟨a1,a2,?_⟩;have:=(zel (kd:=kdF pt n) (sg:=sgF fm) hn g2).1;show(picF n (kdF pt n) (aF pt n) (sgF fm)).length≤400;omega
end Go.Proofs.C06
end
section
set_option maxRecDepth 100000
namespace Go.Proofs.C06
open Go Go.RowKit Go.Vc Go.Am Go.Dg
def okD(d:Decimal)(n:Nat)(sc:Int)(j:Nat):Prop:=d.Digits.getD j 0=48∨(d.Scale-((d.Digits.length:Int)-1-(j:Int))≤sc∧sc-(n:Int)<d.Scale-((d.Digits.length:Int)-1-(j:Int)))
instance(d:Decimal)(n:Nat)(sc:Int)(j:Nat):Decidable (okD d n sc j):=by unfold okD;infer_instance
end Go.Proofs.C06
end
section
set_option maxRecDepth 100000
namespace Go.Proofs.C06
open Go Go.RowKit Go.Vc Go.Am Go.Dg
end Go.Proofs.C06
end
section
set_option maxRecDepth 100000
namespace Go.Proofs.C06
open Go Go.RowKit Go.Vc Go.Am Go.Dg
theorem zfv(ng:Bool)(q:Nat){sc:Int}(h: -62≤sc):val (canon ng (q*10^(-sc).toNat) sc.toNat).2.1*10^(62+sc).toNat=q*10^(62+(canon ng (q*10^(-sc).toNat) sc.toNat).2.2):=by
 have hv:=Vi ng (q*10^(-sc).toNat) sc.toNat;generalize (canon ng (q*10^(-sc).toNat) sc.toNat).2.2=c at hv⊢;generalize val (canon ng (q*10^(-sc).toNat) sc.toNat).2.1=v at hv⊢;by_cases h0:0≤sc
 ·rw[show(-sc).toNat=0 by omega,Nat.pow_zero,Nat.mul_one]at hv;rw[show(62+sc).toNat=sc.toNat+62 by omega,Nat.pow_add,←Nat.mul_assoc,hv,Nat.add_comm 62 c,Nat.pow_add,Nat.mul_assoc]
 ·rw[show sc.toNat=0 by omega,Nat.pow_zero,Nat.mul_one]at hv;rw[hv,Nat.mul_assoc,Nat.mul_assoc,←Nat.pow_add,←Nat.pow_add];congr 2;omega
theorem zpu(ng:Bool)(q n:Nat){sc:Int}(h1: -18≤sc)(h2:sc≤18):qK (jI (canon ng (q*10^(-sc).toNat) sc.toNat)) n sc↔q<10^n:=by
 have hg:=zfv ng q (sc:=sc) (by omega);have hcs:=zB ng (q*10^(-sc).toNat) sc.toNat;unfold qK jI;show exact (val (canon ng (q*10^(-sc).toNat) sc.toNat).2.1) (((canon ng (q*10^(-sc).toNat) sc.toNat).2.2:Int)).toNat sc∧quo (val (canon ng (q*10^(-sc).toNat) sc.toNat).2.1) (((canon ng (q*10^(-sc).toNat) sc.toNat).2.2:Int)).toNat sc<10^n↔_;rw[Int.toNat_natCast,YO (by omega) (by omega) (by omega)];constructor
 ·rintro⟨p,hp,he⟩;rw[hg]at he;exact (Nat.eq_of_mul_eq_mul_right (pow_pos _) he)▸hp
 ·intro hq;exact⟨q,hq,hg⟩
theorem zkP{ng:Bool}{q:Nat}{sc:Int}(hq:q≤10^18)(h1: -18≤sc)(h2:sc≤18):VD (jI (canon ng (q*10^(-sc).toNat) sc.toNat)):=by refine VD.of (Nat.le_trans (jx (n:=37) (by decide) ?_) (by decide)) (Nat.le_trans (zB _ _ _) (by omega));have:=Nat.mul_le_mul hq (Nat.pow_le_pow_right (show 0<10 by decide) (show(-sc).toNat≤18 by omega));exact Nat.lt_of_le_of_lt this (by decide)
end Go.Proofs.C06
end
