/-
  A part of the proof of the laws.
-/
import Derived.Test.YtgehgjniceckfaaGreatDoorCi
section
set_option maxRecDepth 100000
namespace Go.Proofs.C06
open Go Go.RowKit Go.Vc Go.Am
theorem zB{n:Int}(h1: -9223372036854775808≤n)(h2:n≤9223372036854775807):inKb .i64 n=true:=ZK.2 ⟨h1,h2⟩
theorem ze7(T:List UInt8)(a b:Nat):Vc.sub T (a:Int) (b:Int)=(T.drop a).take (b-a):=by unfold Vc.sub;rw[Int.toNat_natCast,Int.toNat_natCast,List.drop_take]
theorem zqE(T:List UInt8)(a:Nat):Vc.sub T (a:Int) (T.length:Int)=T.drop a:=by rw[ze7,List.take_of_length_le (by rw[List.length_drop];omega)]
def oc(T d:List UInt8)(e:Nat):Bool:=!zT d&&d.isPrefixOf (T.drop e)
theorem zpu{T d:List UInt8}{e:Nat}:oc T d e=true↔d≠[]∧∃r,T.drop e=d++r:=by
 unfold oc;rw[Bool.and_eq_true,List.isPrefixOf_iff_prefix];have h1:(!zT d)=true↔d≠[]:=by cases d<;>simp[zT]
 rw[h1];exact and_congr Iff.rfl ⟨fun⟨t,h⟩=>⟨t,h.symm⟩,fun⟨t,h⟩=>⟨t,h.symm⟩⟩
theorem zcq{T d:List UInt8}{e:Nat}(h:oc T d e=true):e+d.length≤T.length∧e<T.length∧0<d.length:=by obtain⟨h1,r,h2⟩:=zpu.1 h;have:=congrArg List.length h2;have h3:=List.length_pos_iff.2 h1;rw[List.length_drop,List.length_append]at this;omega
theorem zvv(T:List UInt8)(e:Nat):oc T [] e=false:=rfl
theorem zpt{T d:List UInt8}{e:Nat}(_h:e+d.length≤T.length):decide (Vc.sub T (e:Int) ((e:Int)+(d.length:Int))=d)=d.isPrefixOf (T.drop e):=by
 have e1:Vc.sub T (e:Int) ((e:Int)+(d.length:Int))=(T.drop e).take d.length:=by rw[show(e:Int)+(d.length:Int)=((e+d.length:Nat):Int)by omega,ze7,Nat.add_sub_cancel_left]
 rw[e1];cases hb:d.isPrefixOf (T.drop e)with
 |true=>obtain⟨r,hr⟩:=List.isPrefixOf_iff_prefix.1 hb;rw[←hr];simp
 |false=>
  refine decide_eq_false fun he=>?_
  have:d.isPrefixOf (T.drop e)=true:=List.isPrefixOf_iff_prefix.2 ⟨(T.drop e).drop d.length,by
   conv=>lhs;lhs;rw[←he]
   exact List.take_append_drop _ _⟩
  rw[hb]at this;cases this
theorem zam{T d:List UInt8}{e:Nat}(h:¬e+d.length≤T.length):oc T d e=false:=by
 cases hb:oc T d e with
 |false=>rfl
 |true=>exact absurd (zcq hb).1 h
theorem zcI{T d:List UInt8}{a:Nat}(hd:d≠[]):(Lib.index (T.drop a) d= -1∧∀e,a≤e→oc T d e=false)∨(∃i:Nat,Lib.index (T.drop a) d=(i:Int)∧oc T d (a+i)=true∧∀e,a≤e→e<a+i→oc T d e=false):=by
 have key:∀j,Lib.occAt (T.drop a) d j=oc T d (a+j):=fun j=>by
  unfold Lib.occAt oc;rw[List.drop_drop,show(!zT d)=true by cases d with
   |nil=>exact absurd rfl hd
   |cons _ _=>rfl,Bool.true_and]
 rcases Lib.index_spec (T.drop a) d with⟨h1,h2⟩|⟨i,h1,_,h3,h4⟩
 ·refine .inl ⟨h1,fun e he=>?_⟩;by_cases hl:e-a≤(T.drop a).length
  ·have:=h2 (e-a) hl;rw[key,show a+(e-a)=e by omega]at this;exact this
  ·rw[List.length_drop]at hl;exact zam (by omega)
 ·refine .inr ⟨i,h1,by rw[←key];exact h3,fun e he hei=>?_⟩;have:=h4 (e-a) (by omega);rw[key,show a+(e-a)=e by omega]at this;exact this
theorem ztV{s p:List UInt8}(hs:s≠[]∨p.length≠1)(h1:s.length≤1000)(h2:p.length≤1000):zjv s p=some (Lib.index s p):=by
 match p,h2,hs with
 |[],_,_=>rw[Lib.index_empty];rfl
 |[c],_,hs=>
  have hn:(!zT s)=true:=by cases s with
   |nil=>rcases hs with h|h<;>exact absurd rfl h
   |cons _ _=>rfl
  show chk (!zT s) (some (zhP s c 0))=_;rw[hn,za,VP,Lib.index_one]
 |c::d::r,h2,_=>
  simp only[zjv];rw[Nat.ble_eq_true_of_le (show(c::d::r).length≤9223372036854775807 by omega)];cases hb:Nat.blt s.length (c::d::r).length with
  |true=>have:=Nat.blt_eq.mp hb;dsimp only;rw[Lib.index_long (by omega) (fun e=>by rw[e]at this;omega)]
  |false=>
   have hlt:¬s.length<(c::d::r).length:=fun hh=>by rw[Nat.blt_eq.mpr hh]at hb;cases hb
   dsimp only;cases hq:Nat.beq s.length (c::d::r).length with
   |true=>
    have hl:=Nat.eq_of_beq_eq_true hq;dsimp only;by_cases he:c::d::r=s
    ·rw[he,Lib.index_self];simp
    ·rw[Lib.index_long (by omega) he,show(c::d::r==s)=false from beq_eq_false_iff_ne.2 he];rfl
   |false=>dsimp only;rw[Nat.blt_eq.mpr (by omega),za]
def ff(T d:List UInt8):Int:=if d=[]then-1 else Lib.index T d
theorem zwt{T d:List UInt8}{p:Nat}(h:oc T d p=true)(hb:∀e,e<p→oc T d e=false):ff T d=(p:Int):=by
 have hd:=(zpu.1 h).1;unfold ff;rw[if_neg hd];have:=zcI (T:=T) (a:=0) hd;rw[List.drop_zero]at this;rcases this with⟨_,h2⟩|⟨i,h1,h2,h3⟩
 ·rw[h2 p (Nat.zero_le _)]at h;cases h
 ·rw[Nat.zero_add]at h2 h3;rw[h1];have a1:¬i<p:=fun hl=>by rw[hb i hl]at h2;cases h2
  have a2:¬p<i:=fun hl=>by rw[h3 p (Nat.zero_le _) hl]at h;cases h
  omega
theorem zuf{T d:List UInt8}(h:∀e,oc T d e=false):ff T d= -1:=by
 unfold ff;by_cases hd:d=[]
 ·rw[if_pos hd]
 ·rw[if_neg hd];have:=zcI (T:=T) (a:=0) hd;rw[List.drop_zero]at this;rcases this with⟨h1,_⟩|⟨i,_,h2,_⟩
  ·exact h1
  ·rw[h]at h2;cases h2
theorem ff_cases(T d:List UInt8):ff T d= -1∨∃p:Nat,ff T d=(p:Int)∧p+d.length≤T.length:=by
 unfold ff;by_cases hd:d=[]
 ·rw[if_pos hd];exact .inl rfl
 ·rw[if_neg hd];have:=zcI (T:=T) (a:=0) hd;rw[List.drop_zero]at this;rcases this with⟨h1,_⟩|⟨i,h1,h2,_⟩
  ·exact .inl h1
  ·rw[Nat.zero_add]at h2;exact .inr ⟨i,h1,(zcq h2).1⟩
theorem ztW{T d:List UInt8}(hT:T.length≤1000)(hd:d.length≤1000):zmd T d=some (Lib.index T d):=by
 unfold zmd;split
 ·rw[Lib.index_one];rfl
 ·rename_i h;refine ztV ?_ hT hd;by_cases h0:T=[]
  ·refine .inr fun h1=>?_
   obtain⟨c,rfl⟩:=List.length_eq_one_iff.1 h1;exact h c h0 rfl
  ·exact .inl h0
section
variable {N : Nat} {T d : List UInt8} (hT : T.length ≤ 1000) (hd : d.length ≤ 1000)
include hT hd
theorem zdh:KX N T d=some (ff T d):=by
 unfold KX ff;by_cases h0:d=[]
 ·subst h0;rfl
 ·have:=List.length_pos_iff.2 h0;rw[decide_eq_false (by omega),cond_false,ztW hT hd,zj,if_neg h0]
omit hT in
theorem QY{e:Nat}(he:e≤1000):Z3 N T (e:Int) d=some (oc T d e):=by
 unfold Z3;by_cases h0:d=[]
 ·subst h0;rfl
 ·have:=List.length_pos_iff.2 h0;rw[decide_eq_true (show(0:Int)<(d.length:Int)by omega),cond_true,zB (by omega) (by omega),za];by_cases hl:e+d.length≤T.length
  ·rw[decide_eq_true (show(e:Int)+(d.length:Int)≤(T.length:Int)by omega),cond_true,za,z6.2 ⟨by omega,by omega,by omega⟩,za,zpt hl];unfold oc;cases d with
   |nil=>exact absurd rfl h0
   |cons _ _=>rfl
  ·rw[decide_eq_false (show¬(e:Int)+(d.length:Int)≤(T.length:Int)by omega),cond_false,zam hl]
theorem Ws:∀(k i:Nat),i≤T.length→T.length-i<k→(∀e,e<i→oc T d e=false)→Jl N k T d (i:Int)=some (ff T d)
 |0,_,_,h,_=>by omega
 |k+1,i,hi,hk,hb=>by
  show Yz N (Jl N k) T d (i:Int)=_;unfold Yz;by_cases hl:i<T.length
  ·rw[decide_eq_true (by omega),cond_true,QY hd (by omega),zj];cases ho:oc T d i with
   |true=>rw[cond_true,zwt ho hb]
   |false=>
    rw[cond_false,zB (by omega) (by omega),za];refine Ws k (i+1) (by omega) (by omega) fun e he=>?_
    by_cases h:e=i
    ·rw[h];exact ho
    ·exact hb e (by omega)
  ·rw[decide_eq_false (by omega),cond_false];rw[zuf fun e=>?_];by_cases h:e<i
   ·exact hb e h
   ·by_cases h0:d=[]
    ·subst h0;rfl
    ·have:=List.length_pos_iff.2 h0;exact zam (by omega)
theorem zeq(hN:1000<N):zcr N T d=some (ff T d):=Ws hT hd N 0 (by omega) (by omega) (fun _ h=>absurd h (Nat.not_lt_zero _))
end
def toP(T:List UInt8):Option (List UInt8)→Int
 |none=>(T.length:Int)
 |some d=>if 0≤ff T d then ff T d else(T.length:Int)
def zdm(T:List UInt8):Option (List UInt8)→Int
 |none=>0
 |some d=>if 0≤ff T d then ff T d+(d.length:Int)else(T.length:Int)
theorem zdl(T d:List UInt8):zdm T (some d)=if 0≤ff T d then ff T d+(d.length:Int)else(T.length:Int):=rfl
theorem zg7(T d:List UInt8):toP T (some d)=if 0≤ff T d then ff T d else(T.length:Int):=rfl
theorem zu0(T:List UInt8):∀o,0≤toP T o∧toP T o≤(T.length:Int)
 |none=>by show 0≤(T.length:Int)∧(T.length:Int)≤T.length;omega
 |some d=>by show 0≤(if 0≤ff T d then ff T d else(T.length:Int))∧(if 0≤ff T d then ff T d else(T.length:Int))≤T.length;rcases ff_cases T d with h|⟨p,h,h2⟩<;>rw[h]<;>split<;>omega
def dv(D:List (List UInt8)):List AV:=D.map fun d=>.rob false d
def sel(D:List (List UInt8))(x:Int):Option (List UInt8):=if 0≤x then some (D.getD x.toNat [])else none
theorem Zg{D:List (List UInt8)}{x:Int}(h0:0≤x)(h:x<(D.length:Int)):atV (dv D) x=.rob false (D.getD x.toNat []):=by
 obtain⟨i,rfl⟩:∃i:Nat,x=i:=⟨x.toNat,by omega⟩
 unfold atV dv;rw[Int.toNat_natCast,List.getD_eq_getElem?_getD,List.getElem?_map,List.getD_eq_getElem?_getD,List.getElem?_eq_getElem (by omega)];rfl
theorem qB{D:List (List UInt8)}{x:Int}(h0:0≤x)(h:x<(D.length:Int)):(zg x (dv D).length&&zd (atV (dv D) x))=true:=by rw[Zg h0 h,show(dv D).length=D.length by simp[dv],zt.2 ⟨h0,h⟩];rfl
theorem qL(D:List (List UInt8)):(dv D).length=D.length:=by simp[dv]
def Short(D:List (List UInt8)):Prop:=∀d∈D,d.length≤100
theorem Short.getD{D:List (List UInt8)}(h:Short D)(i:Nat):(D.getD i []).length≤100:=by
 rw[List.getD_eq_getElem?_getD];cases hg:D[i]? with
 |none=>simp
 |some d=>exact h d (List.mem_of_getElem? hg)
section
variable {N : Nat} (hN : 1000 < N) {T : List UInt8} (hT : T.length ≤ 500) {D : List (List UInt8)} (hD : Short D)
include hT hD
theorem YQ{a t:Int}(ha:a<(D.length:Int)):Js N T a (dv D) 0 t=some (zdm T (sel D a),t):=by
 unfold Js;by_cases h:0≤a
 ·have hs:=hD.getD a.toNat;rw[decide_eq_true h,cond_true,qB h ha,za,Zg h ha,show bytesOf (.rob false (D.getD a.toNat []))=D.getD a.toNat []from rfl,zdh (by omega) (by omega),zj,show sel D a=some (D.getD a.toNat [])from if_pos h];rw[zdl];by_cases h2:0≤ff T (D.getD a.toNat [])
  ·have hc:=ff_cases T (D.getD a.toNat []);rw[decide_eq_true h2,cond_true,za,zB (by omega) (by rcases hc with h|⟨p,h,h'⟩<;>omega),za,if_pos h2]
  ·rw[decide_eq_false h2,cond_false,if_neg h2]
 ·rw[decide_eq_false h,cond_false,show sel D a=none from if_neg h];rfl
theorem zhS{b a:Int}(hb:b<(D.length:Int))(ha:a<(D.length:Int)):zc N T b a (dv D)=some (zdm T (sel D a),toP T (sel D b)):=by
 unfold zc;by_cases h:0≤b
 ·have hs:=hD.getD b.toNat;rw[decide_eq_true h,cond_true,qB h hb,za,Zg h hb,show bytesOf (.rob false (D.getD b.toNat []))=D.getD b.toNat []from rfl,zdh (by omega) (by omega),zj,YQ hT hD ha,YQ hT hD ha];rw[show sel D b=some (D.getD b.toNat [])from if_pos h];rw[zg7];by_cases h2:0≤ff T (D.getD b.toNat [])
  ·rw[decide_eq_true h2,cond_true,if_pos h2]
  ·rw[decide_eq_false h2,cond_false,if_neg h2]
 ·rw[decide_eq_false h,cond_false,YQ hT hD ha,show sel D b=none from if_neg h];rfl
omit hD in
include hN in
theorem zht{bf af:List UInt8}(hb:bf.length≤100)(ha:af.length≤100){x y:Bool}:
  zhu N T bf af ⟨x,y⟩=some (zdm T (cond y (some af) none),toP T (cond x (some bf) none)):=by
 have k0:∀t:Int,Jk N T af 0 t ⟨x,y⟩=some (zdm T (cond y (some af) none),t):=fun t=>by
  unfold Jk;cases y with
  |false=>rfl
  |true=>
   rw[show(Arr60.mk x true).c1=true from rfl,cond_true,zeq (by omega) (by omega) hN,zj];show _=some (zdm T (some af),t);rw[zdl];by_cases h2:0≤ff T af
   ·have hc:=ff_cases T af;rw[decide_eq_true h2,cond_true,zB (by omega) (by rcases hc with h|⟨p,h,h'⟩<;>omega),za,if_pos h2]
   ·rw[decide_eq_false h2,cond_false,if_neg h2]
 unfold zhu;cases x with
 |false=>rw[show(Arr60.mk false y).c0=false from rfl,cond_false,k0];rfl
 |true=>
  rw[show(Arr60.mk true y).c0=true from rfl,cond_true,zeq (by omega) (by omega) hN,zj,zj,k0,k0];show _=some (_,toP T (some bf));rw[zg7];by_cases h2:0≤ff T bf
  ·rw[decide_eq_true h2,cond_true,if_pos h2]
  ·rw[decide_eq_false h2,cond_false,if_neg h2]
end
end Go.Proofs.C06
end
section
set_option maxRecDepth 100000
namespace Go.Proofs.C06
open Go Go.RowKit Go.Vc Go.Am
def zZ(D:List (List UInt8))(r:Rule):List UInt8:=(sel D r.What).getD []
def frP(T:List UInt8)(D:List (List UInt8))(r:Rule):Int:=zdm T (sel D r.After)
def tP(T:List UInt8)(D:List (List UInt8))(r:Rule):Int:=toP T (sel D r.Before)
abbrev jx:=List (Nat×Nat×Nat)
def lead(o:jx)(i:Nat)(f:Int):Int:=o.foldl (fun x a=>if a.1=i then(a.2.1:Int)+(a.2.2:Int)else x) f
def Wk(o:jx)(i:Nat):Bool:=o.any fun a=>decide (a.1=i)
def jd(T:List UInt8)(D:List (List UInt8))(r:Rule)(i:Nat)(o:jx):active:=⟨r.Count,r.How,r.What,r.By,r.Before,r.After,zZ D r,frP T D r,tP T D r,lead o i (frP T D r),Wk o i⟩
def nP(D:List (List UInt8))(r:Rule):Nat:=if r.How=1 then 1 else(zZ D r).length
def jF(T:List UInt8)(D:List (List UInt8))(r:Rule)(i:Nat)(o:jx)(at':Nat):Bool:=(if r.How=1 then true else oc T (zZ D r) at')&&!decide ((at':Int)<frP T D r)&&!decide (tP T D r<(at':Int)+(nP D r:Int))&&!(decide (r.How=3)&&!decide ((at':Int)=lead o i (frP T D r)))&&!(decide (r.How=4)&&Wk o i)
structure VR(D:List (List UInt8))(r:Rule):Prop where
 h1:r.How=1→r.What<0
 h2:r.What<(D.length:Int)
 h3:r.Before<(D.length:Int)
 h4:r.After<(D.length:Int)
 h5:r.How≠1→0≤r.What
theorem VA(o:jx)(i:Nat)(f:Int)(a:Nat×Nat×Nat):lead (o++[a]) i f=if a.1=i then(a.2.1:Int)+(a.2.2:Int)else lead o i f:=by unfold lead;rw[List.foldl_append];rfl
theorem Wj(o:jx)(i:Nat)(a:Nat×Nat×Nat):Wk (o++[a]) i=(Wk o i||decide (a.1=i)):=by unfold Wk;rw[List.any_append];simp
section
variable {N : Nat} {T : List UInt8} (hT : T.length ≤ 500) {D : List (List UInt8)} (hD : Short D)
theorem ze{r:Rule}{i j a n:Nat}{o:jx}(h:j≠i):jd T D r i (o++[(j,a,n)])=jd T D r i o:=by unfold jd;rw[VA,Wj,if_neg h,decide_eq_false h,Bool.or_false]
theorem zQ{r:Rule}{i a n:Nat}{o:jx}:jd T D r i (o++[(i,a,n)])=active.mk r.Count r.How r.What r.By r.Before r.After (zZ D r) (frP T D r) (tP T D r) ((a:Int)+(n:Int)) true:=by unfold jd;rw[VA,Wj,if_pos rfl,decide_eq_true rfl,Bool.or_true]
include hD in
theorem Wn(r:Rule):(zZ D r).length≤100:=by
 unfold zZ sel;split
 ·exact hD.getD _
 ·simp
theorem zwQ{d:List UInt8}(h0:d≠[]){p:Nat}(hp:p≤T.length):zin N (Vc.sub T (p:Int) (T.length:Int)) d=some (oc T d p):=by
 unfold zin zj7;rw[zqE,List.length_drop];have ho:oc T d p=d.isPrefixOf (T.drop p):=by
  unfold oc;cases d with
  |nil=>exact absurd rfl h0
  |cons _ _=>rfl
 by_cases hl:d.length≤T.length-p
 ·rw[decide_eq_true (show(d.length:Int)≤((T.length-p:Nat):Int)by omega),cond_true,z6.2 ⟨by omega,by omega,by omega⟩,za,zj];have:=zpt (T:=T.drop p) (d:=d) (e:=0) (by rw[List.length_drop];omega);rw[List.drop_zero]at this;rw[ho,←this];simp
 ·rw[decide_eq_false (show¬(d.length:Int)≤((T.length-p:Nat):Int)by omega),cond_false,zam (by omega)]
theorem zM(n:Nat):zq (n:Int) 1=if n=0 then 1 else(n:Int):=by unfold zq;split<;>split<;>omega
include hT hD in
theorem zx{r:Rule}(hv:VR D r){i at':Nat}{o:jx}(ha:at'≤T.length):
  zI N T (at':Int) (jd T D r i o)=some (if jF T D r i o at' then(nP D r:Int)else 0,jd T D r i o):=by
 have hw:=Wn hD r;have hm:zq ((zZ D r).length:Int) 1=if(zZ D r).length=0 then 1 else((zZ D r).length:Int):=zM _
 have hm1:1≤zq ((zZ D r).length:Int) 1∧zq ((zZ D r).length:Int) 1≤101:=by rw[hm];split<;>omega
 have k0:yL N T (at':Int) (zq ((zZ D r).length:Int) 1) (jd T D r i o)=some (if(if r.How=1 then true else oc T (zZ D r) at')=true then(nP D r:Int)else 0,jd T D r i o):=by
  unfold yL nP;show cond (!decide (r.How=1)) (cond (decide (((zZ D r).length:Int)=0)) _ (chk _ (bnd (zin N _ (zZ D r)) _))) _=_;by_cases h1:r.How=1
  ·have:zZ D r=[]:=by unfold zZ sel;rw[if_neg (by have:=hv.h1 h1;omega)];rfl
   rw[decide_eq_true h1,Bool.not_true,cond_false,if_pos h1,if_pos rfl,if_pos h1,this];rfl
  ·rw[decide_eq_false h1,Bool.not_false,cond_true,if_neg h1,if_neg h1];by_cases h0:zZ D r=[]
   ·rw[h0,decide_eq_true (by simp),cond_true,zvv];rfl
   ·have hl:=List.length_pos_iff.2 h0;rw[decide_eq_false (by omega),cond_false,z6.2 ⟨by omega,by omega,by omega⟩,za,zwQ h0 ha,zj];cases oc T (zZ D r) at' with
    |false=>rfl
    |true=>rw[Bool.not_true,cond_false,if_pos rfl,hm,if_neg (by omega)]
 have hn:jF T D r i o at'=true→(nP D r:Int)=zq ((zZ D r).length:Int) 1:=fun h=>by
  unfold jF at h;simp only[Bool.and_eq_true]at h;unfold nP;by_cases h1:r.How=1
  ·have:zZ D r=[]:=by unfold zZ sel;rw[if_neg (by have:=hv.h1 h1;omega)];rfl
   rw[if_pos h1,this];rfl
  ·rw[if_neg h1]at h⊢;have:=(zcq h.1.1.1.1).2.2;rw[hm,if_neg (by omega)]
 unfold zI;show cond (decide ((at':Int)<frP T D r)) _ (chk (inKb .i64 ((at':Int)+zq ((zZ D r).length:Int) 1)) (cond (decide (tP T D r<(at':Int)+zq ((zZ D r).length:Int) 1)) _
  (cond (decide (r.How=3)) (cond (!decide ((at':Int)=lead o i (frP T D r))) _ (cond (decide (r.How=4)) (cond (Wk o i) _ _) _)) (cond (decide (r.How=4)) (cond (Wk o i) _ _) _))))=_
 rw[zB (by omega) (by omega),za];have z:∀{b:Bool},(b=false)→some ((0:Int),jd T D r i o)=some (if b=true then(nP D r:Int)else 0,jd T D r i o):=fun h=>by rw[h];rfl
 by_cases c1:(at':Int)<frP T D r
 ·rw[decide_eq_true c1,cond_true];exact z (by unfold jF;rw[decide_eq_true c1];simp)
 ·rw[decide_eq_false c1,cond_false];by_cases c2:tP T D r<(at':Int)+zq ((zZ D r).length:Int) 1
  ·rw[decide_eq_true c2,cond_true];refine z ?_;cases hb:jF T D r i o at' with
   |false=>rfl
   |true=>have:=hn hb;unfold jF at hb;rw[this,decide_eq_true c2]at hb;simp at hb
  ·rw[decide_eq_false c2,cond_false,show(jd T D r i o).what=zZ D r from rfl,k0];have e1:(if r.How=1 then true else oc T (zZ D r) at')=true→(nP D r:Int)=zq ((zZ D r).length:Int) 1:=fun h=>by
    unfold nP;by_cases h1:r.How=1
    ·have:zZ D r=[]:=by unfold zZ sel;rw[if_neg (by have:=hv.h1 h1;omega)];rfl
     rw[if_pos h1,this];rfl
    ·rw[if_neg h1]at h⊢;have:=(zcq h).2.2;rw[hm,if_neg (by omega)]
   have e2:((if r.How=1 then true else oc T (zZ D r) at')&&!decide (tP T D r<(at':Int)+(nP D r:Int)))=(if r.How=1 then true else oc T (zZ D r) at'):=by
    cases hc:(if r.How=1 then true else oc T (zZ D r) at')with
    |false=>rfl
    |true=>rw[e1 hc,decide_eq_false c2];rfl
   have e3:jF T D r i o at'=((if r.How=1 then true else oc T (zZ D r) at')&&!(decide (r.How=3)&&!decide ((at':Int)=lead o i (frP T D r)))&&!(decide (r.How=4)&&Wk o i)):=by unfold jF;rw[decide_eq_false c1,Bool.not_false,Bool.and_true,e2]
   rw[e3];cases(if r.How=1 then true else oc T (zZ D r) at')<;>cases decide (r.How=3)<;>cases decide ((at':Int)=lead o i (frP T D r))<;>cases decide (r.How=4)<;>cases Wk o i<;>rfl
def stp(T:List UInt8)(D:List (List UInt8))(o:jx)(at':Nat):List Rule→Nat→Option (Nat×Nat)
 |[],_=>none
 |r::L,i=>if jF T D r i o at' then some (i,nP D r)else stp T D o at' L (i+1)
def run(T:List UInt8)(D:List (List UInt8))(L:List Rule):Nat→Nat→jx→jx
 |0,_,o=>o
 |k+1,at',o=>if at'<T.length then match stp T D o at' L 0 with
  |none=>run T D L k (at'+1) o
  |some (i,n)=>run T D L k (at'+n) (o++[(i,at',n)])
  else o
theorem zY{r:Rule}{i at':Nat}{o:jx}(h:jF T D r i o at'=true):0<nP D r∧(nP D r:Int)+(at':Int)≤tP T D r:=by
 unfold jF at h;simp only[Bool.and_eq_true]at h;have h2:=h.1.1.2;simp only[Bool.not_eq_true',decide_eq_false_iff_not]at h2;refine⟨?_,by omega⟩;unfold nP;by_cases h1:r.How=1
 ·rw[if_pos h1];omega
 ·rw[if_neg h1]at h⊢;exact (zcq h.1.1.1.1).2.2
theorem zN{r:Rule}{i at':Nat}{o:jx}(h:jF T D r i o at'=true):at'+nP D r≤T.length:=by have h1:=(zY h).2;have h2:=(zu0 T (sel D r.Before)).2;have h3:tP T D r=toP T (sel D r.Before):=rfl;omega
def cntO(m:Nat)(o:jx):List Int:=(List.range m).map fun i=>((o.countP fun a=>decide (a.1=i):Nat):Int)
theorem K2(m:Nat)(o:jx):(cntO m o).length=m:=by simp[cntO]
theorem zgL{m:Nat}{o:jx}{i:Nat}(h:i<m):atI (cntO m o) (i:Int)=((o.countP fun a=>decide (a.1=i):Nat):Int):=by unfold atI cntO;rw[Int.toNat_natCast,List.getD_eq_getElem?_getD,List.getElem?_map,List.getElem?_range h];rfl
theorem zeP{m:Nat}{o:jx}{i a n:Nat}(h:i<m):(cntO m o).set i (atI (cntO m o) (i:Int)+1)=cntO m (o++[(i,a,n)]):=by
 rw[zgL h];refine List.ext_getElem (by simp[cntO]) fun j h1 h2=>?_
 have hj:j<m:=by simpa[cntO]using h2
 simp only[cntO,List.getElem_set,List.getElem_map,List.getElem_range,List.countP_append];by_cases hij:i=j
 ·subst hij;rw[if_pos rfl];simp
 ·rw[if_neg hij];simp[hij]
theorem yj{m:Nat}{o:jx}{i a n:Nat}{j:Int}(hj:j=(i:Int))(h:i<m)(ho:o.length≤1000):Yb N j (a:Int) (n:Int) (cntO m o)=some (cntO m (o++[(i,a,n)])):=by subst hj;unfold Yb;have h1:zg (i:Int) (cntO m o).length=true:=zt.2 ⟨by omega,by rw[K2];omega⟩;have h2:o.countP (fun a=>decide (a.1=i))≤o.length:=List.countP_le_length;have h3:=zgL (o:=o) h;rw[h1,za,za,zB (by omega) (by omega),za,za,za,Int.toNat_natCast,zeP h]
include hT hD
omit hD in
theorem zlo:∀(k a:Nat)(o:jx),a≤T.length→T.length-a<k→o.length+(T.length-a)≤1000→zc0 N k T (a:Int) (cntO 0 o)=some (cntO 0 (run T D [] k a o))
 |0,_,_,_,h,_=>by omega
 |k+1,a,o,ha,hk,ho=>by
  show zcZ N (zc0 N k) T (a:Int) (cntO 0 o)=_;unfold zcZ run;by_cases hl:a<T.length
  ·rw[decide_eq_true (show(a:Int)<(T.length:Int)by omega),cond_true,if_pos hl];have st:stp T D o a [] 0=none:=by simp only[stp]
   rw[show zq 0 1=1 from rfl,zB (by omega) (by omega),za,st];exact zlo k (a+1) o (by omega) (by omega) (by omega)
  ·rw[decide_eq_false (by omega),cond_false,if_neg hl]
theorem zgl{r0:Rule}(v0:VR D r0):∀(k a:Nat)(o:jx),a≤T.length→T.length-a<k→o.length+(T.length-a)≤1000→zcY N k T (a:Int) (cntO 1 o) (jd T D r0 0 o)=some (cntO 1 (run T D [r0] k a o))
 |0,_,_,_,h,_=>by omega
 |k+1,a,o,ha,hk,ho=>by
  show zcX N (zcY N k) T (a:Int) (cntO 1 o) (jd T D r0 0 o)=_;unfold zcX run;by_cases hl:a<T.length
  ·rw[decide_eq_true (show(a:Int)<(T.length:Int)by omega),cond_true,if_pos hl];rw[zx hT hD v0 ha,zj];cases c0:jF T D r0 0 o a with
   |true=>
    have hp:=zY c0;have hr:=zN c0;have st:stp T D o a [r0] 0=some (0,nP D r0):=by simp only[stp,c0,if_true]
    have mx:zq (nP D r0:Int) 1=(nP D r0:Int):=by rw[zM,if_neg (by omega)]
    rw[if_pos rfl,decide_eq_true (show(0:Int)<(nP D r0:Int)by omega),cond_true,zB (by omega) (by omega),za,yj (i:=0) (by rfl) (by omega) (by omega),zj,mx,zB (by omega) (by omega),za,st];have:=zgl v0 k (a+nP D r0) (o++[(0,a,nP D r0)]) (by omega) (by omega) (by rw[List.length_append];simp only[List.length_cons,List.length_nil];omega);rw[zQ (r:=r0)]at this;exact this
   |false=>
    rw[if_neg (by decide),decide_eq_false (show¬(0:Int)<0 by decide),cond_false];have st:stp T D o a [r0] 0=none:=by simp only[stp,c0,Bool.false_eq_true,if_false]
    rw[show zq 0 1=1 from rfl,zB (by omega) (by omega),za,st];exact zgl v0 k (a+1) o (by omega) (by omega) (by omega)
  ·rw[decide_eq_false (by omega),cond_false,if_neg hl]
theorem zbQ{r0 r1:Rule}(v0:VR D r0)(v1:VR D r1):∀(k a:Nat)(o:jx),a≤T.length→T.length-a<k→o.length+(T.length-a)≤1000→zcW N k T (a:Int) (cntO 2 o) (jd T D r0 0 o) (jd T D r1 1 o)=some (cntO 2 (run T D [r0,r1] k a o))
 |0,_,_,_,h,_=>by omega
 |k+1,a,o,ha,hk,ho=>by
  show zcV N (zcW N k) T (a:Int) (cntO 2 o) (jd T D r0 0 o) (jd T D r1 1 o)=_;unfold zcV run;by_cases hl:a<T.length
  ·rw[decide_eq_true (show(a:Int)<(T.length:Int)by omega),cond_true,if_pos hl];rw[zx hT hD v0 ha,zj];cases c0:jF T D r0 0 o a with
   |true=>
    have hp:=zY c0;have hr:=zN c0;have st:stp T D o a [r0,r1] 0=some (0,nP D r0):=by simp only[stp,c0,if_true,Nat.zero_add]
    have mx:zq (nP D r0:Int) 1=(nP D r0:Int):=by rw[zM,if_neg (by omega)]
    rw[if_pos rfl,decide_eq_true (show(0:Int)<(nP D r0:Int)by omega),cond_true,zB (by omega) (by omega),za,yj (i:=0) (by rfl) (by omega) (by omega),zj,mx,zB (by omega) (by omega),za,st];have:=zbQ v0 v1 k (a+nP D r0) (o++[(0,a,nP D r0)]) (by omega) (by omega) (by rw[List.length_append];simp only[List.length_cons,List.length_nil];omega);rw[ze (r:=r1) (i:=1) (j:=0) (by decide),zQ (r:=r0)]at this;exact this
   |false=>
    rw[if_neg (by decide),decide_eq_false (show¬(0:Int)<0 by decide),cond_false];rw[zx hT hD v1 ha,zj];cases c1:jF T D r1 1 o a with
    |true=>
     have hp:=zY c1;have hr:=zN c1;have st:stp T D o a [r0,r1] 0=some (1,nP D r1):=by simp only[stp,c0,c1,if_true,Bool.false_eq_true,if_false,Nat.zero_add]
     have mx:zq (nP D r1:Int) 1=(nP D r1:Int):=by rw[zM,if_neg (by omega)]
     rw[if_pos rfl,decide_eq_true (show(0:Int)<(nP D r1:Int)by omega),cond_true,zB (by omega) (by omega),za,yj (i:=1) (by rfl) (by omega) (by omega),zj,mx,zB (by omega) (by omega),za,st];have:=zbQ v0 v1 k (a+nP D r1) (o++[(1,a,nP D r1)]) (by omega) (by omega) (by rw[List.length_append];simp only[List.length_cons,List.length_nil];omega);rw[ze (r:=r0) (i:=0) (j:=1) (by decide),zQ (r:=r1)]at this;exact this
    |false=>
     rw[if_neg (by decide),decide_eq_false (show¬(0:Int)<0 by decide),cond_false];have st:stp T D o a [r0,r1] 0=none:=by simp only[stp,c0,c1,Bool.false_eq_true,if_false,Nat.zero_add]
     rw[show zq 0 1=1 from rfl,zB (by omega) (by omega),za,st];exact zbQ v0 v1 k (a+1) o (by omega) (by omega) (by omega)
  ·rw[decide_eq_false (by omega),cond_false,if_neg hl]
theorem KU{r0 r1 r2:Rule}(v0:VR D r0)(v1:VR D r1)(v2:VR D r2):∀(k a:Nat)(o:jx),a≤T.length→T.length-a<k→o.length+(T.length-a)≤1000→zcU N k T (a:Int) (cntO 3 o) (jd T D r0 0 o) (jd T D r1 1 o) (jd T D r2 2 o)=some (cntO 3 (run T D [r0,r1,r2] k a o))
 |0,_,_,_,h,_=>by omega
 |k+1,a,o,ha,hk,ho=>by
  show zcT N (zcU N k) T (a:Int) (cntO 3 o) (jd T D r0 0 o) (jd T D r1 1 o) (jd T D r2 2 o)=_;unfold zcT run;by_cases hl:a<T.length
  ·rw[decide_eq_true (show(a:Int)<(T.length:Int)by omega),cond_true,if_pos hl];rw[zx hT hD v0 ha,zj];cases c0:jF T D r0 0 o a with
   |true=>
    have hp:=zY c0;have hr:=zN c0;have st:stp T D o a [r0,r1,r2] 0=some (0,nP D r0):=by simp only[stp,c0,if_true,Nat.zero_add,Nat.reduceAdd]
    have mx:zq (nP D r0:Int) 1=(nP D r0:Int):=by rw[zM,if_neg (by omega)]
    rw[if_pos rfl,decide_eq_true (show(0:Int)<(nP D r0:Int)by omega),cond_true,zB (by omega) (by omega),za,yj (i:=0) (by rfl) (by omega) (by omega),zj,mx,zB (by omega) (by omega),za,st];have:=KU v0 v1 v2 k (a+nP D r0) (o++[(0,a,nP D r0)]) (by omega) (by omega) (by rw[List.length_append];simp only[List.length_cons,List.length_nil];omega);rw[ze (r:=r1) (i:=1) (j:=0) (by decide),ze (r:=r2) (i:=2) (j:=0) (by decide),zQ (r:=r0)]at this;exact this
   |false=>
    rw[if_neg (by decide),decide_eq_false (show¬(0:Int)<0 by decide),cond_false];rw[zx hT hD v1 ha,zj];cases c1:jF T D r1 1 o a with
    |true=>
     have hp:=zY c1;have hr:=zN c1;have st:stp T D o a [r0,r1,r2] 0=some (1,nP D r1):=by simp only[stp,c0,c1,if_true,Bool.false_eq_true,if_false,Nat.zero_add,Nat.reduceAdd]
     have mx:zq (nP D r1:Int) 1=(nP D r1:Int):=by rw[zM,if_neg (by omega)]
     rw[if_pos rfl,decide_eq_true (show(0:Int)<(nP D r1:Int)by omega),cond_true,zB (by omega) (by omega),za,yj (i:=1) (by rfl) (by omega) (by omega),zj,mx,zB (by omega) (by omega),za,st];have:=KU v0 v1 v2 k (a+nP D r1) (o++[(1,a,nP D r1)]) (by omega) (by omega) (by rw[List.length_append];simp only[List.length_cons,List.length_nil];omega);rw[ze (r:=r0) (i:=0) (j:=1) (by decide),ze (r:=r2) (i:=2) (j:=1) (by decide),zQ (r:=r1)]at this;exact this
    |false=>
     rw[if_neg (by decide),decide_eq_false (show¬(0:Int)<0 by decide),cond_false];rw[zx hT hD v2 ha,zj];cases c2:jF T D r2 2 o a with
     |true=>
      have hp:=zY c2;have hr:=zN c2;have st:stp T D o a [r0,r1,r2] 0=some (2,nP D r2):=by simp only[stp,c0,c1,c2,if_true,Bool.false_eq_true,if_false,Nat.zero_add,Nat.reduceAdd]
      have mx:zq (nP D r2:Int) 1=(nP D r2:Int):=by rw[zM,if_neg (by omega)]
      rw[if_pos rfl,decide_eq_true (show(0:Int)<(nP D r2:Int)by omega),cond_true,zB (by omega) (by omega),za,yj (i:=2) (by rfl) (by omega) (by omega),zj,mx,zB (by omega) (by omega),za,st];have:=KU v0 v1 v2 k (a+nP D r2) (o++[(2,a,nP D r2)]) (by omega) (by omega) (by rw[List.length_append];simp only[List.length_cons,List.length_nil];omega);rw[ze (r:=r0) (i:=0) (j:=2) (by decide),ze (r:=r1) (i:=1) (j:=2) (by decide),zQ (r:=r2)]at this;exact this
     |false=>
      rw[if_neg (by decide),decide_eq_false (show¬(0:Int)<0 by decide),cond_false];have st:stp T D o a [r0,r1,r2] 0=none:=by simp only[stp,c0,c1,c2,Bool.false_eq_true,if_false,Nat.zero_add,Nat.reduceAdd]
      rw[show zq 0 1=1 from rfl,zB (by omega) (by omega),za,st];exact KU v0 v1 v2 k (a+1) o (by omega) (by omega) (by omega)
  ·rw[decide_eq_false (by omega),cond_false,if_neg hl]
theorem Qp{r0 r1 r2 r3:Rule}(v0:VR D r0)(v1:VR D r1)(v2:VR D r2)(v3:VR D r3):∀(k a:Nat)(o:jx),a≤T.length→T.length-a<k→o.length+(T.length-a)≤1000→zcS N k T (a:Int) (cntO 4 o) (jd T D r0 0 o) (jd T D r1 1 o) (jd T D r2 2 o) (jd T D r3 3 o)=some (cntO 4 (run T D [r0,r1,r2,r3] k a o))
 |0,_,_,_,h,_=>by omega
 |k+1,a,o,ha,hk,ho=>by
  show zcR N (zcS N k) T (a:Int) (cntO 4 o) (jd T D r0 0 o) (jd T D r1 1 o) (jd T D r2 2 o) (jd T D r3 3 o)=_;unfold zcR run;by_cases hl:a<T.length
  ·rw[decide_eq_true (show(a:Int)<(T.length:Int)by omega),cond_true,if_pos hl];rw[zx hT hD v0 ha,zj];cases c0:jF T D r0 0 o a with
   |true=>
    have hp:=zY c0;have hr:=zN c0;have st:stp T D o a [r0,r1,r2,r3] 0=some (0,nP D r0):=by simp only[stp,c0,if_true,Nat.zero_add,Nat.reduceAdd]
    have mx:zq (nP D r0:Int) 1=(nP D r0:Int):=by rw[zM,if_neg (by omega)]
    rw[if_pos rfl,decide_eq_true (show(0:Int)<(nP D r0:Int)by omega),cond_true,zB (by omega) (by omega),za,yj (i:=0) (by rfl) (by omega) (by omega),zj,mx,zB (by omega) (by omega),za,st];have:=Qp v0 v1 v2 v3 k (a+nP D r0) (o++[(0,a,nP D r0)]) (by omega) (by omega) (by rw[List.length_append];simp only[List.length_cons,List.length_nil];omega);rw[ze (r:=r1) (i:=1) (j:=0) (by decide),ze (r:=r2) (i:=2) (j:=0) (by decide),ze (r:=r3) (i:=3) (j:=0) (by decide),zQ (r:=r0)]at this;exact this
   |false=>
    rw[if_neg (by decide),decide_eq_false (show¬(0:Int)<0 by decide),cond_false];rw[zx hT hD v1 ha,zj];cases c1:jF T D r1 1 o a with
    |true=>
     have hp:=zY c1;have hr:=zN c1;have st:stp T D o a [r0,r1,r2,r3] 0=some (1,nP D r1):=by simp only[stp,c0,c1,if_true,Bool.false_eq_true,if_false,Nat.zero_add,Nat.reduceAdd]
     have mx:zq (nP D r1:Int) 1=(nP D r1:Int):=by rw[zM,if_neg (by omega)]
     rw[if_pos rfl,decide_eq_true (show(0:Int)<(nP D r1:Int)by omega),cond_true,zB (by omega) (by omega),za,yj (i:=1) (by rfl) (by omega) (by omega),zj,mx,zB (by omega) (by omega),za,st];have:=Qp v0 v1 v2 v3 k (a+nP D r1) (o++[(1,a,nP D r1)]) (by omega) (by omega) (by rw[List.length_append];simp only[List.length_cons,List.length_nil];omega);rw[ze (r:=r0) (i:=0) (j:=1) (by decide),ze (r:=r2) (i:=2) (j:=1) (by decide),ze (r:=r3) (i:=3) (j:=1) (by decide),zQ (r:=r1)]at this;exact this
    |false=>
     rw[if_neg (by decide),decide_eq_false (show¬(0:Int)<0 by decide),cond_false];rw[zx hT hD v2 ha,zj];cases c2:jF T D r2 2 o a with
     |true=>
      have hp:=zY c2;have hr:=zN c2;have st:stp T D o a [r0,r1,r2,r3] 0=some (2,nP D r2):=by simp only[stp,c0,c1,c2,if_true,Bool.false_eq_true,if_false,Nat.zero_add,Nat.reduceAdd]
      have mx:zq (nP D r2:Int) 1=(nP D r2:Int):=by rw[zM,if_neg (by omega)]
      rw[if_pos rfl,decide_eq_true (show(0:Int)<(nP D r2:Int)by omega),cond_true,zB (by omega) (by omega),za,yj (i:=2) (by rfl) (by omega) (by omega),zj,mx,zB (by omega) (by omega),za,st];have:=Qp v0 v1 v2 v3 k (a+nP D r2) (o++[(2,a,nP D r2)]) (by omega) (by omega) (by rw[List.length_append];simp only[List.length_cons,List.length_nil];omega);rw[ze (r:=r0) (i:=0) (j:=2) (by decide),ze (r:=r1) (i:=1) (j:=2) (by decide),ze (r:=r3) (i:=3) (j:=2) (by decide),zQ (r:=r2)]at this;exact this
     |false=>
      rw[if_neg (by decide),decide_eq_false (show¬(0:Int)<0 by decide),cond_false];rw[zx hT hD v3 ha,zj];cases c3:jF T D r3 3 o a with
      |true=>
       have hp:=zY c3;have hr:=zN c3;have st:stp T D o a [r0,r1,r2,r3] 0=some (3,nP D r3):=by simp only[stp,c0,c1,c2,c3,if_true,Bool.false_eq_true,if_false,Nat.zero_add,Nat.reduceAdd]
       have mx:zq (nP D r3:Int) 1=(nP D r3:Int):=by rw[zM,if_neg (by omega)]
       rw[if_pos rfl,decide_eq_true (show(0:Int)<(nP D r3:Int)by omega),cond_true,zB (by omega) (by omega),za,yj (i:=3) (by rfl) (by omega) (by omega),zj,mx,zB (by omega) (by omega),za,st];have:=Qp v0 v1 v2 v3 k (a+nP D r3) (o++[(3,a,nP D r3)]) (by omega) (by omega) (by rw[List.length_append];simp only[List.length_cons,List.length_nil];omega);rw[ze (r:=r0) (i:=0) (j:=3) (by decide),ze (r:=r1) (i:=1) (j:=3) (by decide),ze (r:=r2) (i:=2) (j:=3) (by decide),zQ (r:=r3)]at this;exact this
      |false=>
       rw[if_neg (by decide),decide_eq_false (show¬(0:Int)<0 by decide),cond_false];have st:stp T D o a [r0,r1,r2,r3] 0=none:=by simp only[stp,c0,c1,c2,c3,Bool.false_eq_true,if_false,Nat.zero_add,Nat.reduceAdd]
       rw[show zq 0 1=1 from rfl,zB (by omega) (by omega),za,st];exact Qp v0 v1 v2 v3 k (a+1) o (by omega) (by omega) (by omega)
  ·rw[decide_eq_false (by omega),cond_false,if_neg hl]
theorem JN{r0 r1 r2 r3 r4:Rule}(v0:VR D r0)(v1:VR D r1)(v2:VR D r2)(v3:VR D r3)(v4:VR D r4):∀(k a:Nat)(o:jx),a≤T.length→T.length-a<k→o.length+(T.length-a)≤1000→zcQ N k T (a:Int) (cntO 5 o) (jd T D r0 0 o) (jd T D r1 1 o) (jd T D r2 2 o) (jd T D r3 3 o) (jd T D r4 4 o)=some (cntO 5 (run T D [r0,r1,r2,r3,r4] k a o))
 |0,_,_,_,h,_=>by omega
 |k+1,a,o,ha,hk,ho=>by
  show zcP N (zcQ N k) T (a:Int) (cntO 5 o) (jd T D r0 0 o) (jd T D r1 1 o) (jd T D r2 2 o) (jd T D r3 3 o) (jd T D r4 4 o)=_;unfold zcP run;by_cases hl:a<T.length
  ·rw[decide_eq_true (show(a:Int)<(T.length:Int)by omega),cond_true,if_pos hl];rw[zx hT hD v0 ha,zj];cases c0:jF T D r0 0 o a with
   |true=>
    have hp:=zY c0;have hr:=zN c0;have st:stp T D o a [r0,r1,r2,r3,r4] 0=some (0,nP D r0):=by simp only[stp,c0,if_true,Nat.zero_add,Nat.reduceAdd]
    have mx:zq (nP D r0:Int) 1=(nP D r0:Int):=by rw[zM,if_neg (by omega)]
    rw[if_pos rfl,decide_eq_true (show(0:Int)<(nP D r0:Int)by omega),cond_true,zB (by omega) (by omega),za,yj (i:=0) (by rfl) (by omega) (by omega),zj,mx,zB (by omega) (by omega),za,st];have:=JN v0 v1 v2 v3 v4 k (a+nP D r0) (o++[(0,a,nP D r0)]) (by omega) (by omega) (by rw[List.length_append];simp only[List.length_cons,List.length_nil];omega);rw[ze (r:=r1) (i:=1) (j:=0) (by decide),ze (r:=r2) (i:=2) (j:=0) (by decide),ze (r:=r3) (i:=3) (j:=0) (by decide),ze (r:=r4) (i:=4) (j:=0) (by decide),zQ (r:=r0)]at this;exact this
   |false=>
    rw[if_neg (by decide),decide_eq_false (show¬(0:Int)<0 by decide),cond_false];rw[zx hT hD v1 ha,zj];cases c1:jF T D r1 1 o a with
    |true=>
     have hp:=zY c1;have hr:=zN c1;have st:stp T D o a [r0,r1,r2,r3,r4] 0=some (1,nP D r1):=by simp only[stp,c0,c1,if_true,Bool.false_eq_true,if_false,Nat.zero_add,Nat.reduceAdd]
     have mx:zq (nP D r1:Int) 1=(nP D r1:Int):=by rw[zM,if_neg (by omega)]
     rw[if_pos rfl,decide_eq_true (show(0:Int)<(nP D r1:Int)by omega),cond_true,zB (by omega) (by omega),za,yj (i:=1) (by rfl) (by omega) (by omega),zj,mx,zB (by omega) (by omega),za,st];have:=JN v0 v1 v2 v3 v4 k (a+nP D r1) (o++[(1,a,nP D r1)]) (by omega) (by omega) (by rw[List.length_append];simp only[List.length_cons,List.length_nil];omega);rw[ze (r:=r0) (i:=0) (j:=1) (by decide),ze (r:=r2) (i:=2) (j:=1) (by decide),ze (r:=r3) (i:=3) (j:=1) (by decide),ze (r:=r4) (i:=4) (j:=1) (by decide),zQ (r:=r1)]at this;exact this
    |false=>
     rw[if_neg (by decide),decide_eq_false (show¬(0:Int)<0 by decide),cond_false];rw[zx hT hD v2 ha,zj];cases c2:jF T D r2 2 o a with
     |true=>
      have hp:=zY c2;have hr:=zN c2;have st:stp T D o a [r0,r1,r2,r3,r4] 0=some (2,nP D r2):=by simp only[stp,c0,c1,c2,if_true,Bool.false_eq_true,if_false,Nat.zero_add,Nat.reduceAdd]
      have mx:zq (nP D r2:Int) 1=(nP D r2:Int):=by rw[zM,if_neg (by omega)]
      rw[if_pos rfl,decide_eq_true (show(0:Int)<(nP D r2:Int)by omega),cond_true,zB (by omega) (by omega),za,yj (i:=2) (by rfl) (by omega) (by omega),zj,mx,zB (by omega) (by omega),za,st];have:=JN v0 v1 v2 v3 v4 k (a+nP D r2) (o++[(2,a,nP D r2)]) (by omega) (by omega) (by rw[List.length_append];simp only[List.length_cons,List.length_nil];omega);rw[ze (r:=r0) (i:=0) (j:=2) (by decide),ze (r:=r1) (i:=1) (j:=2) (by decide),ze (r:=r3) (i:=3) (j:=2) (by decide),ze (r:=r4) (i:=4) (j:=2) (by decide),zQ (r:=r2)]at this;exact this
     |false=>
      rw[if_neg (by decide),decide_eq_false (show¬(0:Int)<0 by decide),cond_false];rw[zx hT hD v3 ha,zj];cases c3:jF T D r3 3 o a with
      |true=>
       have hp:=zY c3;have hr:=zN c3;have st:stp T D o a [r0,r1,r2,r3,r4] 0=some (3,nP D r3):=by simp only[stp,c0,c1,c2,c3,if_true,Bool.false_eq_true,if_false,Nat.zero_add,Nat.reduceAdd]
       have mx:zq (nP D r3:Int) 1=(nP D r3:Int):=by rw[zM,if_neg (by omega)]
       rw[if_pos rfl,decide_eq_true (show(0:Int)<(nP D r3:Int)by omega),cond_true,zB (by omega) (by omega),za,yj (i:=3) (by rfl) (by omega) (by omega),zj,mx,zB (by omega) (by omega),za,st];have:=JN v0 v1 v2 v3 v4 k (a+nP D r3) (o++[(3,a,nP D r3)]) (by omega) (by omega) (by rw[List.length_append];simp only[List.length_cons,List.length_nil];omega);rw[ze (r:=r0) (i:=0) (j:=3) (by decide),ze (r:=r1) (i:=1) (j:=3) (by decide),ze (r:=r2) (i:=2) (j:=3) (by decide),ze (r:=r4) (i:=4) (j:=3) (by decide),zQ (r:=r3)]at this;exact this
      |false=>
       rw[if_neg (by decide),decide_eq_false (show¬(0:Int)<0 by decide),cond_false];rw[zx hT hD v4 ha,zj];cases c4:jF T D r4 4 o a with
       |true=>
        have hp:=zY c4;have hr:=zN c4;have st:stp T D o a [r0,r1,r2,r3,r4] 0=some (4,nP D r4):=by simp only[stp,c0,c1,c2,c3,c4,if_true,Bool.false_eq_true,if_false,Nat.zero_add,Nat.reduceAdd]
        have mx:zq (nP D r4:Int) 1=(nP D r4:Int):=by rw[zM,if_neg (by omega)]
        rw[if_pos rfl,decide_eq_true (show(0:Int)<(nP D r4:Int)by omega),cond_true,zB (by omega) (by omega),za,yj (i:=4) (by rfl) (by omega) (by omega),zj,mx,zB (by omega) (by omega),za,st];have:=JN v0 v1 v2 v3 v4 k (a+nP D r4) (o++[(4,a,nP D r4)]) (by omega) (by omega) (by rw[List.length_append];simp only[List.length_cons,List.length_nil];omega);rw[ze (r:=r0) (i:=0) (j:=4) (by decide),ze (r:=r1) (i:=1) (j:=4) (by decide),ze (r:=r2) (i:=2) (j:=4) (by decide),ze (r:=r3) (i:=3) (j:=4) (by decide),zQ (r:=r4)]at this;exact this
       |false=>
        rw[if_neg (by decide),decide_eq_false (show¬(0:Int)<0 by decide),cond_false];have st:stp T D o a [r0,r1,r2,r3,r4] 0=none:=by simp only[stp,c0,c1,c2,c3,c4,Bool.false_eq_true,if_false,Nat.zero_add,Nat.reduceAdd]
        rw[show zq 0 1=1 from rfl,zB (by omega) (by omega),za,st];exact JN v0 v1 v2 v3 v4 k (a+1) o (by omega) (by omega) (by omega)
  ·rw[decide_eq_false (by omega),cond_false,if_neg hl]
end
end Go.Proofs.C06
end
section
set_option maxRecDepth 100000
namespace Go.Proofs.C06
open Go Go.RowKit Go.Vc Go.Am
def yl(r:Rule):AV:=.agg [.int .i64 r.Count,.int .u8 r.How,.int .i64 r.What,.int .i64 r.By,.int .i64 r.Before,.int .i64 r.After]
def lv(L:List Rule):List AV:=L.map yl
def JA(a:Nat×Nat×Nat):AV:=.agg [.int .i64 (a.1:Int),.int .i64 (a.2.1:Int),.int .i64 (a.2.2:Int)]
def ov(o:jx):List AV:=o.map JA
theorem zhW{n:Nat}(h:n≤5000):jz 24 n=true:=by unfold jz;simp only[Bool.and_eq_true,Nat.ble_eq];omega
theorem ztK(o:jx)(a:Nat×Nat×Nat):ov (o++[a])=ov o++[JA a]:=by simp[ov]
theorem zcn(o:jx):(ov o).length=o.length:=by simp[ov]
theorem jE(L:List Rule):(lv L).length=L.length:=by simp[lv]
theorem yT{α:Type}(f:α→AV){l:List α}{i:Nat}(h:i<l.length):atV (l.map f) (i:Int)=f l[i]:=by unfold atV;rw[Int.toNat_natCast,List.getD_eq_getElem?_getD,List.getElem?_map,List.getElem?_eq_getElem h];rfl
section
variable {N : Nat} (hN : 1000 < N) {T : List UInt8} (hT : T.length ≤ 500) {D : List (List UInt8)} (hD : Short D)
abbrev G0:=((List UInt8×List AV×List AV×Int)⊕(List UInt8×List AV×List AV×Int×List AV))→Option (List AV)
abbrev G1:=((List UInt8×List AV×List AV×Int×Int×Int)⊕(List UInt8×List AV×List AV×Int×Int×Int×List AV))→Option (List AV)
def zv9(o:jx):Prop:=o.length≤1000∧∀a∈o,a.2.1+a.2.2≤500
theorem zlj{go0:G0}{go1:G1}{l d:List AV}{a nx fr tu n f0:Int}{i:Nat}{here:Bool}{r:Rule}{o:jx}(ho:zv9 o):∀(k j:Nat),j≤o.length→o.length-j<k→
  qX N go0 go1 k (.inr (T,l,d,a,nx,(i:Int),fr,tu,n,here,lead (o.take j) i f0,Wk (o.take j) i,(j:Int),ov o,r))=ZE N go0 go1 T l d a nx (i:Int) fr tu n here (lead o i f0) (Wk o i) (ov o) r
 |0,_,_,h=>by omega
 |k+1,j,hj,hk=>by
  show YA N go0 go1 (qX N go0 go1 k) T l d a nx (i:Int) fr tu n here (lead (o.take j) i f0) (Wk (o.take j) i) (j:Int) (ov o) r=_;unfold YA;rw[zcn];by_cases hl:j<o.length
  ·have hat:atV (ov o) (j:Int)=JA o[j]:=yT JA hl;have hin:zg (j:Int) o.length=true:=zt.2 ⟨by omega,by omega⟩;have hb:=ho.2 o[j] (List.getElem_mem hl);have htk:o.take (j+1)=o.take j++[o[j]]:=(List.take_append_getElem hl).symm;have h1:=ho.1;rw[decide_eq_true (show(j:Int)<(o.length:Int)by omega),cond_true,hat,hin,za];show chk true (cond (decide (((o[j].1:Nat):Int)=(i:Int))) (chk true (chk true (chk true (chk true (chk (inKb .i64 (((o[j].2.1:Nat):Int)+((o[j].2.2:Nat):Int))) (chk (inKb .i64 ((j:Int)+1)) (qX N go0 go1 k (.inr (T,l,d,a,nx,(i:Int),fr,tu,n,here,((o[j].2.1:Nat):Int)+((o[j].2.2:Nat):Int),true,(j:Int)+1,ov o,r))))))))) _)=_;rw[za];have ih:=zlj (go0:=go0) (go1:=go1) (l:=l) (d:=d) (a:=a) (nx:=nx) (fr:=fr) (tu:=tu) (n:=n) (f0:=f0) (i:=i) (here:=here) (r:=r) ho k (j+1) (by omega) (by omega);rw[htk,VA,Wj]at ih;by_cases hi:o[j].1=i
   ·rw[if_pos hi,decide_eq_true hi,Bool.or_true]at ih;rw[decide_eq_true (by rw[hi]),cond_true,za,za,za,za,zB (by omega) (by omega),za,zB (by omega) (by omega),za];exact ih
   ·rw[if_neg hi,decide_eq_false hi,Bool.or_false]at ih;rw[decide_eq_false (by omega),cond_false,zB (by omega) (by omega),za];exact ih
  ·have:j=o.length:=by omega
   rw[decide_eq_false (by omega),cond_false,this,List.take_length]
theorem ztS{go0:G0}{go1:G1}{l d:List AV}{a nx fr tu n ld:Int}{i:Nat}{here ac:Bool}{r:Rule}{o:jx}(ho:o.length≤1000)(hi:i≤1000)(ha:0≤a∧a≤1000)(hn:0≤n∧n≤1000):
  ZE N go0 go1 T l d a nx (i:Int) fr tu n here ld ac (ov o) r=
  if here&&!decide (a<fr)&&!decide (tu<a+n)&&!(decide (r.How=3)&&!decide (a=ld))&&!(decide (r.How=4)&&ac)then go0 (.inr (T,l,d,a+n,ov o++[.agg [.int .i64 (i:Int),.int .i64 a,.int .i64 n]]))
  else go1 (.inr (T,l,d,a,nx,(i:Int)+1,ov o)):=by
 unfold ZE qD;rw[zB (n:=(i:Int)+1) (by omega) (by omega),zB (n:=a+n) (by omega) (by omega),za,za,zhW (by rw[List.length_append,zcn];simp only[List.length_cons,List.length_nil];omega),za,za];cases here<;>cases decide (a<fr)<;>cases decide (tu<a+n)<;>cases decide (r.How=3)<;>cases decide (a=ld)<;>cases decide (r.How=4)<;>cases ac<;>rfl
theorem zwn{go0:G0}{go1:G1}{l d:List AV}{a nx fr tu n ld:Int}{i:Nat}{here ac:Bool}{r:Rule}(hi:i≤1000)(ha:0≤a∧a≤1000)(hn:0≤n∧n≤1000):
  XN N go0 go1 T l d a nx (i:Int) fr tu n here ld ac r=
  if here&&!decide (a<fr)&&!decide (tu<a+n)&&!(decide (r.How=3)&&!decide (a=ld))&&!(decide (r.How=4)&&ac)then go0 (.inr (T,l,d,a+n,[]++[.agg [.int .i64 (i:Int),.int .i64 a,.int .i64 n]]))
  else go1 (.inl (T,l,d,a,nx,(i:Int)+1)):=by
 unfold XN Jm;rw[zB (n:=(i:Int)+1) (by omega) (by omega),zB (n:=a+n) (by omega) (by omega),za,za,show jz 24 (([]:List AV)++([.agg [.int .i64 (i:Int),.int .i64 a,.int .i64 n]]:List AV)).length=true from zhW (by simp),za,za];cases here<;>cases decide (a<fr)<;>cases decide (tu<a+n)<;>cases decide (r.How=3)<;>cases decide (a=ld)<;>cases decide (r.How=4)<;>cases ac<;>rfl
def e0(T:List UInt8)(L:List Rule)(D:List (List UInt8))(a:Nat):jx→(List UInt8×List AV×List AV×Int)⊕(List UInt8×List AV×List AV×Int×List AV)
 |[]=>.inl (T,lv L,dv D,(a:Int))
 |x::o=>.inr (T,lv L,dv D,(a:Int),ov (x::o))
def e1(T:List UInt8)(L:List Rule)(D:List (List UInt8))(a i:Nat):jx→(List UInt8×List AV×List AV×Int×Int×Int)⊕(List UInt8×List AV×List AV×Int×Int×Int×List AV)
 |[]=>.inl (T,lv L,dv D,(a:Int),(a:Int)+1,(i:Int))
 |x::o=>.inr (T,lv L,dv D,(a:Int),(a:Int)+1,(i:Int),ov (x::o))
theorem zuj(T:List UInt8)(L:List Rule)(D:List (List UInt8))(a:Nat)(o:jx)(x:Nat×Nat×Nat):e0 T L D a (o++[x])=.inr (T,lv L,dv D,(a:Int),ov o++[JA x]):=by rw[←ztK];cases o<;>rfl
include hN hT hD
theorem zlR{go0:G0}{L:List Rule}(hL:L.length≤5){o:jx}(ho:zv9 o){a i:Nat}(ha:a≤500)(hi:i<L.length)(hv:VR D L[i])(k:Nat):
  zw N go0 (k+1) (e1 T L D a i o)=if jF T D L[i] i o a then go0 (e0 T L D (a+nP D L[i]) (o++[(i,a,nP D L[i])]))else zw N go0 k (e1 T L D a (i+1) o):=by
 generalize hr:L[i]=r at hv⊢;have hat:atV (lv L) (i:Int)=yl r:=by rw[←hr];exact yT yl hi
 have hin:zg (i:Int) (lv L).length=true:=zt.2 ⟨by omega,by rw[jE];omega⟩;have hw:=Wn hD r;have hn:nP D r≤100:=by unfold nP;split<;>omega
 have sb:=fun x=>hD.getD x
 rw[zuj];cases o with
 |nil=>
  show qZ N go0 (zw N go0 k) T (lv L) (dv D) (a:Int) ((a:Int)+1) (i:Int)=_;unfold qZ;rw[jE,decide_eq_true (show(i:Int)<(L.length:Int)by omega),cond_true,hat,←jE,hin];show chk true (cond (decide (0≤r.Before)) (chk (zg r.Before (dv D).length&&zd (atV (dv D) r.Before)) (ZH N go0 (zw N go0 k) T (lv L) (dv D) (a:Int) ((a:Int)+1) (i:Int) (bytesOf (atV (dv D) r.Before)) [] r)) (ZH N go0 (zw N go0 k) T (lv L) (dv D) (a:Int) ((a:Int)+1) (i:Int) [] [] r))=_;rw[za];have k4:∀(here:Bool)(m:Nat),m≤1000→ZF N go0 (zw N go0 k) T (lv L) (dv D) (a:Int) ((a:Int)+1) (i:Int) (frP T D r) (tP T D r) (m:Int) here r=
    if here&&!decide ((a:Int)<frP T D r)&&!decide (tP T D r<(a:Int)+(m:Int))&&!(decide (r.How=3)&&!decide ((a:Int)=frP T D r))&&!(decide (r.How=4)&&false)then go0 (.inr (T,lv L,dv D,(a:Int)+(m:Int),[]++[.agg [.int .i64 (i:Int),.int .i64 (a:Int),.int .i64 (m:Int)]]))
    else zw N go0 k (.inl (T,lv L,dv D,(a:Int),(a:Int)+1,(i:Int)+1)):=fun here m hm=>by
   unfold ZF;obtain⟨N',rfl⟩:∃N',N=N'+1:=⟨N-1,by omega⟩
   show YB (N'+1) go0 (zw (N'+1) go0 k) _ T (lv L) (dv D) (a:Int) ((a:Int)+1) (i:Int) (frP T D r) (tP T D r) (m:Int) here (frP T D r) false 0 r=_;unfold YB;rw[decide_eq_false (show¬(0:Int)<0 by omega),cond_false];exact zwn (by omega) ⟨by omega,by omega⟩ ⟨by omega,by omega⟩
  have k3:∀(bf af:List UInt8),bf.length≤100→af.length≤100→cond (decide (0≤r.Before)) (some bf) none=sel D r.Before→cond (decide (0≤r.After)) (some af) none=sel D r.After→
    YC N go0 (zw N go0 k) T (lv L) (dv D) (a:Int) ((a:Int)+1) (i:Int) bf af r=if jF T D r i [] a then go0 (.inr (T,lv L,dv D,((a+nP D r:Nat):Int),ov []++[JA (i,a,nP D r)]))else zw N go0 k (e1 T L D a (i+1) []):=fun bf af h1 h2 h3 h4=>by
   unfold YC;rw[zht hN hT h1 h2,zj,h3,h4];show cond (!decide (r.How=1)) (chk (zg r.What (dv D).length&&zd (atV (dv D) r.What)) (chk (zg r.What (dv D).length&&zd (atV (dv D) r.What)) (bnd (Z3 N T (a:Int) (bytesOf (atV (dv D) r.What))) fun rr1=>ZF N go0 (zw N go0 k) T (lv L) (dv D) (a:Int) ((a:Int)+1) (i:Int) (frP T D r) (tP T D r) (((bytesOf (atV (dv D) r.What)).length:Nat):Int) rr1 r))) (ZF N go0 (zw N go0 k) T (lv L) (dv D) (a:Int) ((a:Int)+1) (i:Int) (frP T D r) (tP T D r) ((1:Nat):Int) true r)=_;unfold jF nP;by_cases hh:r.How=1
   ·rw[decide_eq_true hh,Bool.not_true,cond_false,k4 _ 1 (by omega),if_pos hh,if_pos hh];rfl
   ·have h0:=hv.h5 hh;have e:zZ D r=D.getD r.What.toNat []:=by unfold zZ sel;rw[if_pos h0];rfl
    rw[decide_eq_false hh,Bool.not_false,cond_true,qB h0 hv.h2,za,za,Zg h0 hv.h2,show bytesOf (.rob false (D.getD r.What.toNat []))=zZ D r from e.symm,QY (by omega) (by omega),zj,k4 _ _ (by omega),if_neg hh,if_neg hh];rfl
  have k2:∀bf:List UInt8,bf.length≤100→cond (decide (0≤r.Before)) (some bf) none=sel D r.Before→
    ZH N go0 (zw N go0 k) T (lv L) (dv D) (a:Int) ((a:Int)+1) (i:Int) bf [] r=if jF T D r i [] a then go0 (.inr (T,lv L,dv D,((a+nP D r:Nat):Int),ov []++[JA (i,a,nP D r)]))else zw N go0 k (e1 T L D a (i+1) []):=fun bf h1 h3=>by
   unfold ZH;by_cases hh:0≤r.After
   ·rw[decide_eq_true hh,cond_true,qB hh hv.h4,za,Zg hh hv.h4];exact k3 bf (D.getD r.After.toNat []) h1 (sb _) h3 (by unfold sel;rw[decide_eq_true hh,cond_true,if_pos hh])
   ·rw[decide_eq_false hh,cond_false];exact k3 bf [] h1 (by simp) h3 (by unfold sel;rw[decide_eq_false hh,cond_false,if_neg hh])
  by_cases hh:0≤r.Before
  ·rw[decide_eq_true hh,cond_true,qB hh hv.h3,za,Zg hh hv.h3];exact k2 (D.getD r.Before.toNat []) (sb _) (by unfold sel;rw[decide_eq_true hh,cond_true,if_pos hh])
  ·rw[decide_eq_false hh,cond_false];exact k2 [] (by simp) (by unfold sel;rw[decide_eq_false hh,cond_false,if_neg hh])
 |cons x q=>
  show qY N go0 (zw N go0 k) T (lv L) (dv D) (a:Int) ((a:Int)+1) (i:Int) (ov (x::q))=_;generalize hq:x::q=o at ho;unfold qY;rw[jE,decide_eq_true (show(i:Int)<(L.length:Int)by omega),cond_true,hat,←jE,hin];show chk true (cond (decide (0≤r.Before)) (chk (zg r.Before (dv D).length&&zd (atV (dv D) r.Before)) (y9 N go0 (zw N go0 k) T (lv L) (dv D) (a:Int) ((a:Int)+1) (i:Int) (bytesOf (atV (dv D) r.Before)) [] (ov o) r)) (y9 N go0 (zw N go0 k) T (lv L) (dv D) (a:Int) ((a:Int)+1) (i:Int) [] [] (ov o) r))=_;rw[za];have he:e1 T L D a (i+1) o=.inr (T,lv L,dv D,(a:Int),(a:Int)+1,(i:Int)+1,ov o):=by rw[←hq];rfl
  have k4:∀(here:Bool)(m:Nat),m≤1000→y8 N go0 (zw N go0 k) T (lv L) (dv D) (a:Int) ((a:Int)+1) (i:Int) (frP T D r) (tP T D r) (m:Int) here (ov o) r=
    if here&&!decide ((a:Int)<frP T D r)&&!decide (tP T D r<(a:Int)+(m:Int))&&!(decide (r.How=3)&&!decide ((a:Int)=lead o i (frP T D r)))&&!(decide (r.How=4)&&Wk o i)then go0 (.inr (T,lv L,dv D,(a:Int)+(m:Int),ov o++[.agg [.int .i64 (i:Int),.int .i64 (a:Int),.int .i64 (m:Int)]]))
    else zw N go0 k (.inr (T,lv L,dv D,(a:Int),(a:Int)+1,(i:Int)+1,ov o)):=fun here m hm=>by
   unfold y8;have:=zlj (N:=N) (T:=T) (go0:=go0) (go1:=zw N go0 k) (l:=lv L) (d:=dv D) (a:=(a:Int)) (nx:=(a:Int)+1) (fr:=frP T D r) (tu:=tP T D r) (n:=(m:Int)) (f0:=frP T D r) (i:=i) (here:=here) (r:=r) ho N 0 (Nat.zero_le _) (by have:=ho.1;omega);rw[show o.take 0=[]from rfl]at this;refine Eq.trans this ?_;exact ztS ho.1 (by omega) ⟨by omega,by omega⟩ ⟨by omega,by omega⟩
  have k3:∀(bf af:List UInt8),bf.length≤100→af.length≤100→cond (decide (0≤r.Before)) (some bf) none=sel D r.Before→cond (decide (0≤r.After)) (some af) none=sel D r.After→
    ZG N go0 (zw N go0 k) T (lv L) (dv D) (a:Int) ((a:Int)+1) (i:Int) bf af (ov o) r=if jF T D r i o a then go0 (.inr (T,lv L,dv D,((a+nP D r:Nat):Int),ov o++[JA (i,a,nP D r)]))else zw N go0 k (e1 T L D a (i+1) o):=fun bf af h1 h2 h3 h4=>by
   unfold ZG;rw[zht hN hT h1 h2,zj,h3,h4,he];show cond (!decide (r.How=1)) (chk (zg r.What (dv D).length&&zd (atV (dv D) r.What)) (chk (zg r.What (dv D).length&&zd (atV (dv D) r.What)) (bnd (Z3 N T (a:Int) (bytesOf (atV (dv D) r.What))) fun rr1=>y8 N go0 (zw N go0 k) T (lv L) (dv D) (a:Int) ((a:Int)+1) (i:Int) (frP T D r) (tP T D r) (((bytesOf (atV (dv D) r.What)).length:Nat):Int) rr1 (ov o) r))) (y8 N go0 (zw N go0 k) T (lv L) (dv D) (a:Int) ((a:Int)+1) (i:Int) (frP T D r) (tP T D r) ((1:Nat):Int) true (ov o) r)=_;unfold jF nP;by_cases hh:r.How=1
   ·rw[decide_eq_true hh,Bool.not_true,cond_false,k4 _ 1 (by omega),if_pos hh,if_pos hh];rfl
   ·have h0:=hv.h5 hh;have e:zZ D r=D.getD r.What.toNat []:=by unfold zZ sel;rw[if_pos h0];rfl
    rw[decide_eq_false hh,Bool.not_false,cond_true,qB h0 hv.h2,za,za,Zg h0 hv.h2,show bytesOf (.rob false (D.getD r.What.toNat []))=zZ D r from e.symm,QY (by omega) (by omega),zj,k4 _ _ (by omega),if_neg hh,if_neg hh];rfl
  have k2:∀bf:List UInt8,bf.length≤100→cond (decide (0≤r.Before)) (some bf) none=sel D r.Before→
    y9 N go0 (zw N go0 k) T (lv L) (dv D) (a:Int) ((a:Int)+1) (i:Int) bf [] (ov o) r=if jF T D r i o a then go0 (.inr (T,lv L,dv D,((a+nP D r:Nat):Int),ov o++[JA (i,a,nP D r)]))else zw N go0 k (e1 T L D a (i+1) o):=fun bf h1 h3=>by
   unfold y9;by_cases hh:0≤r.After
   ·rw[decide_eq_true hh,cond_true,qB hh hv.h4,za,Zg hh hv.h4];exact k3 bf (D.getD r.After.toNat []) h1 (sb _) h3 (by unfold sel;rw[decide_eq_true hh,cond_true,if_pos hh])
   ·rw[decide_eq_false hh,cond_false];exact k3 bf [] h1 (by simp) h3 (by unfold sel;rw[decide_eq_false hh,cond_false,if_neg hh])
  by_cases hh:0≤r.Before
  ·rw[decide_eq_true hh,cond_true,qB hh hv.h3,za,Zg hh hv.h3];exact k2 (D.getD r.Before.toNat []) (sb _) (by unfold sel;rw[decide_eq_true hh,cond_true,if_pos hh])
  ·rw[decide_eq_false hh,cond_false];exact k2 [] (by simp) (by unfold sel;rw[decide_eq_false hh,cond_false,if_neg hh])
theorem zll{go0:G0}{L:List Rule}(hL:L.length≤5)(hv:∀r∈L,VR D r){o:jx}(ho:zv9 o){a:Nat}(ha:a≤500):∀(k i:Nat),i≤L.length→L.length-i<k→
  zw N go0 k (e1 T L D a i o)=match stp T D o a (L.drop i) i with
   |none=>go0 (e0 T L D (a+1) o)
   |some (j,n)=>go0 (e0 T L D (a+n) (o++[(j,a,n)]))
 |0,_,_,h=>by omega
 |k+1,i,hi,hk=>by
  by_cases hl:i<L.length
  ·rw[zlR hN hT hD hL ho ha hl (hv _ (List.getElem_mem hl)) k,List.drop_eq_getElem_cons hl];unfold stp;cases jF T D L[i] i o a with
   |true=>rfl
   |false=>rw[if_neg (by decide),if_neg (by decide)];exact zll hL hv ho ha k (i+1) (by omega) (by omega)
  ·rw[List.drop_eq_nil_of_le (by omega)];show _=go0 (e0 T L D (a+1) o);cases o with
   |nil=>show qZ N go0 (zw N go0 k) T (lv L) (dv D) (a:Int) ((a:Int)+1) (i:Int)=_;unfold qZ;rw[jE,decide_eq_false (by omega),cond_false];rfl
   |cons x q=>show qY N go0 (zw N go0 k) T (lv L) (dv D) (a:Int) ((a:Int)+1) (i:Int) (ov (x::q))=_;unfold qY;rw[jE,decide_eq_false (by omega),cond_false];rfl
omit hN hT hD in
theorem ze8{o:jx}{a:Nat}:∀{L:List Rule}{i j n:Nat},stp T D o a L i=some (j,n)→0<n∧a+n≤T.length∧i≤j∧j<i+L.length
 |[],_,_,_,h=>by cases h
 |r::L,i,j,n,h=>by
  unfold stp at h;split at h
  ·rename_i hh;cases h;have h1:=zY hh;have h2:=zN hh;rw[List.length_cons];omega
  ·obtain⟨h1,h2,h3,h4⟩:=ze8 h;rw[List.length_cons];omega
theorem zge{L:List Rule}(hL:L.length≤5)(hv:∀r∈L,VR D r):∀(k a:Nat)(o:jx),a≤T.length→T.length-a<k→o.length+(T.length-a)≤1000→(∀x∈o,x.2.1+x.2.2≤500)→
  zO N k (e0 T L D a o)=some (ov (run T D L k a o))
 |0,_,_,_,h,_,_=>by omega
 |k+1,a,o,ha,hk,ho,hx=>by
  have key:zO N (k+1) (e0 T L D a o)=cond (decide ((a:Int)<(T.length:Int))) (chk (inKb .i64 ((a:Int)+1)) (zw N (zO N k) N (e1 T L D a 0 o))) (some (ov o)):=by cases o<;>rfl
  rw[key];unfold run;by_cases hl:a<T.length
  ·rw[decide_eq_true (by omega),cond_true,zB (by omega) (by omega),za,if_pos hl,zll hN hT hD hL hv ⟨by omega,hx⟩ (by omega) N 0 (Nat.zero_le _) (by omega),List.drop_zero];cases hs:stp T D o a L 0 with
   |none=>exact zge hL hv k (a+1) o (by omega) (by omega) (by omega) hx
   |some p=>
    obtain⟨j,n⟩:=p;have:=ze8 hs;refine zge hL hv k (a+n) _ (by omega) (by omega) (by rw[List.length_append];simp only[List.length_cons,List.length_nil];omega) fun x hm=>?_
    rcases List.mem_append.1 hm with h|h
    ·exact hx x h
    ·rw[List.mem_singleton.1 h];show a+n≤500;omega
  ·rw[decide_eq_false (by omega),cond_false,if_neg hl]
theorem zcs{L:List Rule}(hL:L.length≤5)(hv:∀r∈L,VR D r):zct N T (lv L) (dv D)=some (ov (run T D L N 0 [])):=
 zge hN hT hD hL hv N 0 [] (Nat.zero_le _) (by omega) (by simp;omega) (fun x h=>by cases h)
end
end Go.Proofs.C06
end
section
set_option maxRecDepth 100000
namespace Go.Proofs.C06
open Go Go.RowKit Go.Vc Go.Am
section
variable {N : Nat} {T : List UInt8} (hT : T.length ≤ 500) {D : List (List UInt8)} (hD : Short D)
def qq(r:Rule)(w:List UInt8)(p:Int×Int):active:=active.mk r.Count r.How r.What r.By r.Before r.After w p.1 p.2 p.1 false
def q8(N:Nat)(T:List UInt8)(D:List (List UInt8))(r:Rule)(F:List UInt8→Int×Int→Option (List Int)):Option (List Int):=cond (decide (0≤r.What)) (chk (zg r.What (dv D).length&&zd (atV (dv D) r.What)) (bnd (zc N T r.Before r.After (dv D)) fun p=>F (bytesOf (atV (dv D) r.What)) p)) (bnd (zc N T r.Before r.After (dv D)) fun p=>F [] p)
include hT hD
theorem jL{r:Rule}(v:VR D r)(F:List UInt8→Int×Int→Option (List Int)):q8 N T D r F=F (zZ D r) (frP T D r,tP T D r):=by
 unfold q8;rw[zhS hT hD v.h3 v.h4,zj,zj];by_cases h:0≤r.What
 ·rw[decide_eq_true h,cond_true,qB h v.h2,za,Zg h v.h2,show zZ D r=D.getD r.What.toNat []from by unfold zZ sel;rw[if_pos h];rfl];rfl
 ·rw[decide_eq_false h,cond_false,show zZ D r=[]from by unfold zZ sel;rw[if_neg h];rfl];rfl
variable (hN : 1000 < N)
include hN
omit hD in
theorem zvI:iT0 N T () (dv D) (cntO 0 [])=some (cntO 0 (run T D [] N 0 [])):=
 zlo hT (D:=D) N 0 [] (Nat.zero_le _) (by omega) (by simp;omega)
theorem zvH{r0:Rule}(v0:VR D r0):iT1 N T r0 (dv D) (cntO 1 [])=some (cntO 1 (run T D [r0] N 0 [])):=by show chk true (q8 N T D r0 fun w0 p0=>zgm N T (cntO 1 []) (qq r0 w0 p0))=_;rw[za,jL hT hD v0];exact zgl hT hD v0 N 0 [] (Nat.zero_le _) (by omega) (by simp;omega)
theorem zvG{r0 r1:Rule}(v0:VR D r0)(v1:VR D r1):iT2 N T r0 r1 (dv D) (cntO 2 [])=some (cntO 2 (run T D [r0,r1] N 0 [])):=by show chk true (q8 N T D r0 fun w0 p0=>q8 N T D r1 fun w1 p1=>VT N T (cntO 2 []) (qq r0 w0 p0) (qq r1 w1 p1))=_;rw[za,jL hT hD v0,jL hT hD v1];exact zbQ hT hD v0 v1 N 0 [] (Nat.zero_le _) (by omega) (by simp;omega)
theorem zvF{r0 r1 r2:Rule}(v0:VR D r0)(v1:VR D r1)(v2:VR D r2):iT3 N T r0 r1 r2 (dv D) (cntO 3 [])=some (cntO 3 (run T D [r0,r1,r2] N 0 [])):=by show chk true (q8 N T D r0 fun w0 p0=>q8 N T D r1 fun w1 p1=>q8 N T D r2 fun w2 p2=>Jf N T (cntO 3 []) (qq r0 w0 p0) (qq r1 w1 p1) (qq r2 w2 p2))=_;rw[za,jL hT hD v0,jL hT hD v1,jL hT hD v2];exact KU hT hD v0 v1 v2 N 0 [] (Nat.zero_le _) (by omega) (by simp;omega)
theorem zvE{r0 r1 r2 r3:Rule}(v0:VR D r0)(v1:VR D r1)(v2:VR D r2)(v3:VR D r3):iT4 N T r0 r1 r2 r3 (dv D) (cntO 4 [])=some (cntO 4 (run T D [r0,r1,r2,r3] N 0 [])):=by show chk true (q8 N T D r0 fun w0 p0=>q8 N T D r1 fun w1 p1=>q8 N T D r2 fun w2 p2=>q8 N T D r3 fun w3 p3=>yv N T (cntO 4 []) (qq r0 w0 p0) (qq r1 w1 p1) (qq r2 w2 p2) (qq r3 w3 p3))=_;rw[za,jL hT hD v0,jL hT hD v1,jL hT hD v2,jL hT hD v3];exact Qp hT hD v0 v1 v2 v3 N 0 [] (Nat.zero_le _) (by omega) (by simp;omega)
theorem zvD{r0 r1 r2 r3 r4:Rule}(v0:VR D r0)(v1:VR D r1)(v2:VR D r2)(v3:VR D r3)(v4:VR D r4):iT5 N T r0 r1 r2 r3 r4 (dv D) (cntO 5 [])=some (cntO 5 (run T D [r0,r1,r2,r3,r4] N 0 [])):=by show chk true (q8 N T D r0 fun w0 p0=>q8 N T D r1 fun w1 p1=>q8 N T D r2 fun w2 p2=>q8 N T D r3 fun w3 p3=>q8 N T D r4 fun w4 p4=>jg N T (cntO 5 []) (qq r0 w0 p0) (qq r1 w1 p1) (qq r2 w2 p2) (qq r3 w3 p3) (qq r4 w4 p4))=_;rw[za,jL hT hD v0,jL hT hD v1,jL hT hD v2,jL hT hD v3,jL hT hD v4];exact JN hT hD v0 v1 v2 v3 v4 N 0 [] (Nat.zero_le _) (by omega) (by simp;omega)
theorem zvC:∀{L:List Rule},L.length≤5→(∀r∈L,VR D r)→iTU N T (lv L) (dv D) (cntO L.length [])=some (cntO L.length (run T D L N 0 []))
 |[],_,_=>zvI hT hN
 |[r0],_,v=>zvH hT hD hN (v r0 (by simp))
 |[r0,r1],_,v=>zvG hT hD hN (v r0 (by simp)) (v r1 (by simp))
 |[r0,r1,r2],_,v=>zvF hT hD hN (v r0 (by simp)) (v r1 (by simp)) (v r2 (by simp))
 |[r0,r1,r2,r3],_,v=>zvE hT hD hN (v r0 (by simp)) (v r1 (by simp)) (v r2 (by simp)) (v r3 (by simp))
 |[r0,r1,r2,r3,r4],_,v=>zvD hT hD hN (v r0 (by simp)) (v r1 (by simp)) (v r2 (by simp)) (v r3 (by simp)) (v r4 (by simp))
 |_::_::_::_::_::_::_,h,_=>absurd h (by simp only[List.length_cons];omega)
end
structure Small(r:Rule):Prop where
 c: -1000≤r.Count∧r.Count≤1000
 w: -1000≤r.What∧r.What≤1000
 b: -1000≤r.By∧r.By≤1000
 p: -1000≤r.Before∧r.Before≤1000
 a: -1000≤r.After∧r.After≤1000
 h:0≤r.How∧r.How≤255
def WX(r:Rule)(n:Int):Bool:=decide (-1≤r.Before)&&decide (r.Before<n)&&decide (-1≤r.After)&&decide (r.After<n)&&decide (r.By= -1)
def yd(r:Rule)(n:Int):Bool:=decide (1≤r.How)&&decide (r.How≤3)&&decide (r.What<n)&&(decide (0≤r.What)&&!decide (r.How=1)||decide (r.What= -1)&&decide (r.How=1))&&WX r n
theorem zbY{r:Rule}{n:Int}:yd r n=true↔1≤r.How∧r.How≤3∧r.What<n∧(0≤r.What∧r.How≠1∨r.What= -1∧r.How=1)∧ -1≤r.Before∧r.Before<n∧ -1≤r.After∧r.After<n∧r.By= -1:=by unfold yd WX;simp only[Bool.and_eq_true,Bool.or_eq_true,decide_eq_true_eq,Bool.not_eq_true',decide_eq_false_iff_not];constructor<;>intro h<;>omega
theorem zgh{N:Nat}{r:Rule}{n:Int}{ok:Bool}:jc N n false ok r=some (ok&&WX r n):=by unfold jc qk WX;cases ok<;>cases decide (-1≤r.Before)<;>cases decide (r.Before<n)<;>cases decide (-1≤r.After)<;>cases decide (r.After<n)<;>cases decide (r.By= -1)<;>rfl
theorem zeE{N:Nat}{r:Rule}{n:Int}:ZN N r n false=some (yd r n):=by unfold ZN yd;simp only[zgh];cases decide (1≤r.How)<;>cases decide (r.How≤3)<;>cases decide (r.What<n)<;>cases decide (0≤r.What)<;>cases decide (r.How=1)<;>cases decide (r.What= -1)<;>cases decide (r.How=4)<;>rfl
def zgR(n k:Int):Bool:=decide (k< -1)||decide (n≤k)
theorem zeB{N:Nat}{s:List Int}{n:Int}(hs:s.length≤100):∀(k i:Nat),i≤s.length→s.length-i<k→∃r,Qn N k s (s.length:Int) (i:Int) n=some (r,n)∧decide (0≤r)=(s.drop i).any (zgR n)
 |0,_,_,h=>by omega
 |k+1,i,hi,hk=>by
  show∃r,VO N (Qn N k) s (s.length:Int) (i:Int) n=some (r,n)∧_;unfold VO zpY;by_cases hl:i<s.length
  ·have hat:atI s (i:Int)=s[i]:=by unfold atI;rw[Int.toNat_natCast,List.getD_eq_getElem?_getD,List.getElem?_eq_getElem hl];rfl
   rw[decide_eq_true (show(i:Int)<(s.length:Int)by omega),cond_true,zt.2 ⟨by omega,by omega⟩,za,hat,List.drop_eq_getElem_cons hl,List.any_cons];unfold zgR;by_cases h1:s[i]< -1
   ·rw[decide_eq_true h1,cond_true,zj];exact⟨(i:Int),rfl,by rw[decide_eq_true (by omega)];rfl⟩
   ·rw[decide_eq_false h1,cond_false,zj];by_cases h2:n≤s[i]
    ·rw[decide_eq_true h2];exact⟨(i:Int),rfl,by rw[decide_eq_true (by omega)];rfl⟩
    ·rw[decide_eq_false h2,cond_false,zB (by omega) (by omega),za];exact zeB hs k (i+1) (by omega) (by omega)
  ·rw[decide_eq_false (by omega),cond_false,List.drop_eq_nil_of_le (by omega)];exact⟨-1,rfl,rfl⟩
theorem zcN{N:Nat}(hN:1000<N){s:List Int}{n:Int}(hs:s.length≤100):zbP N n s=some (!s.any (zgR n)):=by unfold zbP zv0 zvB;obtain⟨r,h1,h2⟩:=zeB (N:=N) (n:=n) hs N 0 (Nat.zero_le _) (by omega);rw[show Qn N N s (s.length:Int) 0 n=some (r,n)from h1,zj,zj,h2];rfl
theorem zp1{N:Nat}(hN:1000<N){r:Rule}(hr:Small r){n:Int}(_hn:1≤n):zhU N r n false=some (yd r n):=by
 obtain⟨c,w,b,p,a,h⟩:=hr;show ZQ N n false 3 r=_;unfold ZQ;rw[zB (n:=r.What) (by omega) (by omega),zB (n:=r.By) (by omega) (by omega),zB (n:=r.Before) (by omega) (by omega),zB (n:=r.After) (by omega) (by omega),show(true&&(true&&(true&&(true&&true))))=true from rfl,za,zcN hN (by simp),zj];have e:yd r n=(decide (1≤r.How)&&(decide (r.How≤3)&&((!([r.What,r.By,r.Before,r.After]:List Int).any (zgR n))&&(decide (decide (r.What<0)=decide (r.How=1))&&decide (decide (0≤r.By)=false))))):=by
  rw[Bool.eq_iff_iff,zbY];simp only[zgR,List.any_cons,List.any_nil,Bool.and_eq_true,decide_eq_true_eq,Bool.not_eq_true',Bool.or_eq_false_iff,decide_eq_false_iff_not,decide_eq_decide];constructor
  ·intro q;exact⟨by omega,by omega,⟨by omega,by omega,by omega,by omega,trivial⟩,by omega,by omega⟩
  ·intro q;omega
 rw[e];cases decide (1≤r.How)<;>cases decide (r.How≤3)<;>cases([r.What,r.By,r.Before,r.After]:List Int).any (zgR n)<;>cases decide (decide (r.What<0)=decide (r.How=1))<;>rfl
theorem zuR{r:Rule}{D:List (List UInt8)}(h:yd r (D.length:Int)=true):VR D r:=by obtain⟨h1,h2,h3,h4,h5,h6,h7,h8,h9⟩:=zbY.1 h;exact⟨fun q=>by omega,h3,h6,h8,fun q=>by omega⟩
theorem zeA{N:Nat}(hN:1000<N){L:List Rule}(hL:L.length≤5)(hs:∀r∈L,Small r){D:List (List UInt8)}(hD:1≤D.length):∀(k i:Nat),i≤L.length→L.length-i<k→
  ∃r,JL N k (lv L) ((lv L).length:Int) (i:Int) (dv D)=some (r,dv D)∧decide (0≤r)=(L.drop i).any fun r=>!yd r (D.length:Int)
 |0,_,_,h=>by omega
 |k+1,i,hi,hk=>by
  show∃r,VN N (JL N k) (lv L) ((lv L).length:Int) (i:Int) (dv D)=some (r,dv D)∧_;unfold VN;by_cases hl:i<L.length
  ·have hat:atV (lv L) (i:Int)=yl L[i]:=yT yl hl;have hin:zg (i:Int) (lv L).length=true:=zt.2 ⟨by omega,by rw[jE];omega⟩;rw[decide_eq_true (show(i:Int)<((lv L).length:Int)by rw[jE];omega),cond_true,hat,hin,List.drop_eq_getElem_cons hl,List.any_cons];show∃r,chk true (bnd (zgk N L[i] (dv D)) _)=_∧_;rw[za];unfold zgk;rw[qL,zp1 hN (hs _ (List.getElem_mem hl)) (by omega),zj,zj];cases yd L[i] (D.length:Int)with
   |false=>exact⟨(i:Int),rfl,by rw[decide_eq_true (by omega)];rfl⟩
   |true=>show∃r,chk _ (JL N k (lv L) ((lv L).length:Int) ((i+1:Nat):Int) (dv D))=_∧_;rw[zB (by omega) (by omega),za];exact zeA hN hL hs hD k (i+1) (by omega) (by omega)
  ·rw[decide_eq_false (by rw[jE];omega),cond_false,List.drop_eq_nil_of_le (by omega)];exact⟨-1,rfl,rfl⟩
theorem zun{N:Nat}(hN:1000<N){L:List Rule}(hL:L.length≤5)(hs:∀r∈L,Small r){D:List (List UInt8)}(hD:1≤D.length):zuo N (lv L) (dv D)=some (L.any fun r=>!yd r (D.length:Int),dv D):=by unfold zuo zvA;obtain⟨r,h1,h2⟩:=zeA hN hL hs hD N 0 (Nat.zero_le _) (by omega);rw[show JL N N (lv L) ((lv L).length:Int) 0 (dv D)=some (r,dv D)from h1,zj,h2];rfl
theorem zcu{n:Nat}(h:n≤1000):Jo 8 (n:Int)=true:=by show(Nat.ble (8*n) 281474976710656&&Nat.ble n 9223372036854775807)=true;simp only[Bool.and_eq_true,Nat.ble_eq];omega
theorem zia(m:Nat):List.replicate (((m:Nat):Int)).toNat (0:Int)=cntO m []:=by
 rw[Int.toNat_natCast];refine List.ext_getElem (by simp[cntO]) fun j h1 h2=>?_
 simp[cntO]
theorem zmg{N:Nat}(hN:1000<N){T:List UInt8}(hT:T.length≤500){D:List (List UInt8)}(hD:Short D)(hD1:1≤D.length){L:List Rule}(hL:L.length≤5)(hs:∀r∈L,Small r):
  zcO N T (lv L) (dv D)=some (if(L.any fun r=>!yd r (D.length:Int))then([],1)else(cntO L.length (run T D L N 0 []),0)):=by
 unfold zcO;rw[zun hN hL hs hD1,zj];cases hb:(L.any fun r=>!yd r (D.length:Int))with
 |true=>rfl
 |false=>
  have hv:∀r∈L,VR D r:=fun r hr=>zuR (by
   have:=List.any_eq_false.1 hb r hr;simpa using this)
  rw[cond_false,jE,zcu (by omega),decide_eq_true rfl,show(true&&true)=true from rfl,za,zia,zvC hT hD hN hL hv,zj];rfl
end Go.Proofs.C06
end
section
set_option maxRecDepth 100000
namespace Go.Proofs.C06
open Go Go.RowKit Go.Vc Go.Am
theorem zuB{z:Int}(h0:0≤z)(h1:z<256):IntKind.wrap .u8 z=z:=by show z%256=z;exact Int.emod_eq_of_lt h0 h1
theorem Z6{m n:Nat}(hm:m≤100)(h:n≤5000):jz m n=true:=by unfold jz;have:=Nat.mul_le_mul h hm;simp only[Bool.and_eq_true,Nat.ble_eq];omega
theorem WB{N n:Nat}(hn:n≤100){b:List UInt8}:∀(k i:Nat)(acc:List UInt8),i≤n→i≤b.length→n-i<k→acc.length≤i→∃r,Zs N k b (n:Int) (i:Int) acc=some r∧r.length≤n
 |0,_,_,_,_,h,_=>by omega
 |k+1,i,acc,h1,h2,hk,ha=>by
  show∃r,YO N (Zs N k) b (n:Int) (i:Int) acc=some r∧_;unfold YO;by_cases hb:i<b.length
  ·rw[decide_eq_true (show(i:Int)<(b.length:Int)by omega),cond_true];by_cases h10:i<n
   ·have eb:byteAt b (i:Int)=((b[i]).toNat:Int):=by unfold byteAt;rw[Int.toNat_natCast,List.getD_eq_getElem?_getD,List.getElem?_eq_getElem hb];rfl
    have hw:IntKind.wrap .u8 (65+((b[i]).toNat:Int)%3)=65+((b[i]).toNat:Int)%3:=zuB (by omega) (by omega);rw[decide_eq_true (show(i:Int)<(n:Int)by omega),cond_true,zt.2 ⟨by omega,by omega⟩,za,eb,show yS ((b[i]).toNat:Int)=true from decide_eq_true (by omega),hw,
     show inKb .u8 (65+((b[i]).toNat:Int)%3)=true from ZK.2 ⟨by show(0:Int)≤_;omega,by show _≤(255:Int);omega⟩]
    show∃r,chk (jz 1 (acc++_).length) (chk (inKb .i64 ((i:Int)+1)) (Zs N k b (n:Int) ((i+1:Nat):Int) (acc++_)))=some r∧_;rw[Z6 (by omega) (by rw[List.length_append,List.length_map];simp only[List.length_cons,List.length_nil];omega),za,zB (by omega) (by omega),za];exact WB hn k (i+1) _ (by omega) (by omega) (by omega) (by rw[List.length_append,List.length_map];simp only[List.length_cons,List.length_nil];omega)
   ·rw[decide_eq_false (by omega),cond_false];exact⟨acc,rfl,by omega⟩
  ·rw[decide_eq_false (by omega),cond_false];exact⟨acc,rfl,by omega⟩
theorem VU{N n:Nat}(hN:1000<N)(hn:n≤100)(b:List UInt8):∃r,YP N b (n:Int)=some r∧r.length≤n:=WB hn N 0 [] (by omega) (by omega) (by omega) (by simp)
def S3(D:List (List UInt8)):Prop:=∀d∈D,d.length≤3
theorem S3.short{D:List (List UInt8)}(h:S3 D):Short D:=fun d hd=>by have:=h d hd;omega
theorem YR{N:Nat}(hN:1000<N){l:List AV}(hl:∀v∈l,∃b,v=.rob false b):∀(k i:Nat)(D:List (List UInt8)),D.length=i+1→S3 D→i≤5→i≤l.length→5-i<k→
  ∃D',yP N k l (i:Int) (dv D)=some (dv D')∧S3 D'∧1≤D'.length∧D'.length≤6
 |0,_,_,_,_,_,_,h=>by omega
 |k+1,i,D,hD,hS,h5,hi,hk=>by
  show∃D',ZP N (yP N k) l (i:Int) (dv D)=_∧_;unfold ZP;by_cases hb:i<l.length
  ·rw[decide_eq_true (show(i:Int)<(l.length:Int)by omega),cond_true];by_cases h10:i<5
   ·obtain⟨b,e⟩:=hl l[i] (List.getElem_mem hb);have hat:atV l (i:Int)=.rob false b:=by rw[←e];have:=yT (fun v:AV=>v) hb;rwa [List.map_id']at this
    obtain⟨r,hr,hr3⟩:=VU (n:=3) hN (by omega) b;rw[decide_eq_true (show(i:Int)<5 by omega),cond_true,hat,zt.2 ⟨by omega,by omega⟩];show∃D',chk true (bnd (YP N b ((3:Nat):Int)) _)=_∧_;rw[za,hr,zj];have e2:dv D++([.rob false r]:List AV)=dv (D++[r]):=by simp[dv]
    rw[e2,Z6 (by omega) (by rw[qL,List.length_append];simp only[List.length_cons,List.length_nil];omega),za,zB (by omega) (by omega),za];exact YR hN hl k (i+1) (D++[r]) (by rw[List.length_append,hD];rfl) (fun d hd=>by
     rcases List.mem_append.1 hd with h|h
     ·exact hS d h
     ·rw[List.mem_singleton.1 h];omega) (by omega) (by omega) (by omega)
   ·rw[decide_eq_false (by omega),cond_false];exact⟨D,rfl,hS,by omega,by omega⟩
  ·rw[decide_eq_false (by omega),cond_false];exact⟨D,rfl,hS,by omega,by omega⟩
theorem KW{N:Nat}(hN:1000<N){l:List AV}(hl:∀v∈l,∃b,v=.rob false b):∃D,Jt N l=some (dv D)∧S3 D∧1≤D.length∧D.length≤6:=
 YR hN hl N 0 [[toByte 65]] rfl (fun d hd=>by rw[List.mem_singleton.1 hd];decide) (by omega) (by omega) (by omega)
structure InR20(x:R):Prop where
 a:0≤x.How∧x.How≤255
 b:0≤x.What∧x.What≤255
 c:0≤x.By∧x.By≤255
 d:0≤x.Before∧x.Before≤255
 e:0≤x.After∧x.After≤255
theorem zcv{z:Int}(h: -1000≤z∧z≤1000): -1000≤zq z (-1)∧zq z (-1)≤1000:=by unfold zq;split<;>omega
theorem zhM{N:Nat}{x:R}{z r:Rule}(h:Small r):∃r',Yo N x z r=some r'∧Small r'∧r'.What=r.What:=by
 unfold Yo;cases decide (x.How<250)with
 |true=>exact⟨_,rfl,⟨h.c,h.w,h.b,zcv h.p,zcv h.a,h.h⟩,rfl⟩
 |false=>exact⟨r,rfl,h,rfl⟩
theorem zpR{N:Nat}{x:R}(hx:InR20 x){n:Int}(hn:1≤n∧n≤100){by_:Bool}{z r:Rule}(h:Small r):∃r',ZA N n by_ x z r=some r'∧Small r'∧r'.What=r.What:=by
 unfold ZA;cases by_ with
 |false=>exact zhM (N:=N) (x:=x) (z:=z) h
 |true=>obtain⟨c1,c2⟩:=hx.c;have m1:=Int.emod_nonneg x.By (show n≠0 by omega);have m2:=Int.emod_lt_of_pos x.By (show 0<n by omega);rw[cond_true,zB (by omega) (by omega),za,show yS x.By=true from decide_eq_true c1,decide_eq_true (show 0<n by omega),show(true&&true)=true from rfl,za];exact zhM ⟨h.c,h.w,⟨by show-1000≤x.By%n;omega,by show x.By%n≤1000;omega⟩,h.p,h.a,h.h⟩
theorem zpT{N:Nat}{x:R}(hx:InR20 x){n:Int}(hn:1≤n∧n≤100){by_:Bool}{z r:Rule}(h:Small r):∃r',qV N n by_ x z r=some r'∧Small r'∧(r'.What=r.What∨r'.What= -1):=by
 unfold qV;have w:∀{q:Rule},(q.What=r.What∨q.What= -1)→Small q→∃r',ZA N n by_ x z q=some r'∧Small r'∧(r'.What=r.What∨r'.What= -1):=fun hq h=>by obtain⟨r',e1,e2,e3⟩:=zpR (N:=N) (by_:=by_) (z:=z) hx hn h;exact⟨r',e1,e2,by rw[e3];exact hq⟩
 cases decide (r.How=1)with
 |false=>exact w (.inl rfl) h
 |true=>
  cases decide (x.How<250)with
  |false=>exact w (.inl rfl) h
  |true=>exact w (.inr rfl) ⟨h.c,⟨by show(-1000:Int)≤ -1;decide,by show(-1:Int)≤1000;decide⟩,h.b,h.p,h.a,h.h⟩
theorem Xp{N:Nat}{x:R}(hx:InR20 x){n:Int}(hn:1≤n∧n≤100)(by_:Bool):∃r,Yp N x n by_=some r∧Small r∧r.What<n:=by
 obtain⟨⟨a1,a2⟩,⟨b1,b2⟩,_,⟨d1,d2⟩,e1,e2⟩:=hx;have w1:=Int.emod_nonneg x.What (show n≠0 by omega);have w2:=Int.emod_lt_of_pos x.What (show 0<n by omega);have p1:=Int.emod_nonneg x.Before (show 2*n≠0 by omega);have p2:=Int.emod_lt_of_pos x.Before (show 0<2*n by omega);have q1:=Int.emod_nonneg x.After (show 2*n≠0 by omega);have q2:=Int.emod_lt_of_pos x.After (show 0<2*n by omega);have hw:IntKind.wrap .u8 (1+x.How%4)=1+x.How%4:=zuB (by omega) (by omega);have nn:∀{z:Int},0≤z→yS z=true:=fun h=>decide_eq_true h
 unfold Yp;rw[nn a1,nn b1,nn d1,nn e1,decide_eq_true (show 0<n by omega),decide_eq_true (show 0<2*n by omega),show decide ((0:Nat)<4)=true from rfl,show(true&&true)=true from rfl,za,za,za,za,
  zB (n:=x.What) (by omega) (by omega),zB (n:=x.Before) (by omega) (by omega),zB (n:=x.After) (by omega) (by omega),zB (n:=2*n) (by omega) (by omega),zB (n:=x.Before% (2*n)-n) (by omega) (by omega),zB (n:=x.After% (2*n)-n) (by omega) (by omega),hw]
 simp only[za];have s:∀hh:Int,0≤hh∧hh≤255→Small (Rule.mk (-1) hh (x.What%n) (-1) (x.Before% (2*n)-n) (x.After% (2*n)-n)):=fun hh h=>⟨⟨by show(-1000:Int)≤ -1;decide,by show(-1:Int)≤1000;decide⟩,⟨by show-1000≤x.What%n;omega,by show x.What%n≤1000;omega⟩,⟨by show(-1000:Int)≤ -1;decide,by show(-1:Int)≤1000;decide⟩,⟨by show-1000≤x.Before% (2*n)-n;omega,by show x.Before% (2*n)-n≤1000;omega⟩,⟨by show-1000≤x.After% (2*n)-n;omega,by show x.After% (2*n)-n≤1000;omega⟩,h⟩
 have hx:InR20 x:=⟨⟨a1,a2⟩,⟨b1,b2⟩,‹_›,⟨d1,d2⟩,e1,e2⟩
 have fin:∀{hh:Int},0≤hh∧hh≤255→∃r',qV N n by_ x (Rule.mk 0 0 0 0 0 0) (Rule.mk (-1) hh (x.What%n) (-1) (x.Before% (2*n)-n) (x.After% (2*n)-n))=some r'∧Small r'∧r'.What<n:=fun h=>by
  obtain⟨r',e1,e2,e3⟩:=zpT (N:=N) (by_:=by_) (z:=Rule.mk 0 0 0 0 0 0) hx hn (s _ h);exact⟨r',e1,e2,e3.elim (fun e=>by rw[e];show x.What%n<n;omega) (fun e=>by rw[e];omega)⟩
 cases decide (1+x.How%4=4)<;>cases by_<;>cases decide (x.How<250)<;>simp only[cond_true,cond_false,Bool.not_true,Bool.not_false]<;>first|exact fin (hh:=2) ⟨by omega,by omega⟩|exact fin (hh:=1+x.How%4) ⟨by omega,by omega⟩
end Go.Proofs.C06
end
section
set_option maxRecDepth 100000
namespace Go.Proofs.C06
open Go Go.RowKit Go.Vc Go.Am
theorem zfg{T:List UInt8}{D:List (List UInt8)}{L:List Rule}:∀(k a:Nat)(o:jx),a≤T.length→(∀x∈o,x.1<L.length)→(∀x∈run T D L k a o,x.1<L.length)∧(run T D L k a o).length≤o.length+(T.length-a)
 |0,a,o,_,h=>⟨h,by unfold run;omega⟩
 |k+1,a,o,ha,h=>by
  unfold run;by_cases hl:a<T.length
  ·rw[if_pos hl];cases hs:stp T D o a L 0 with
   |none=>have:=zfg (T:=T) (D:=D) (L:=L) k (a+1) o (by omega) h;exact⟨this.1,by have:=this.2;show(run T D L k (a+1) o).length≤_;omega⟩
   |some p=>
    obtain⟨j,n⟩:=p;have hp:=ze8 hs;have:=zfg (T:=T) (D:=D) (L:=L) k (a+n) (o++[(j,a,n)]) (by omega) (fun x hx=>by
     rcases List.mem_append.1 hx with q|q
     ·exact h x q
     ·rw[List.mem_singleton.1 q];show j<_;omega)
    refine⟨this.1,?_⟩;have h2:=this.2;rw[List.length_append]at h2;simp only[List.length_cons,List.length_nil]at h2;show(run T D L k (a+n) (o++[(j,a,n)])).length≤_;omega
  ·rw[if_neg hl];exact⟨h,by omega⟩
theorem zpF{N:Nat}{W:List Int}(hW:W.length≤100):∀(k i:Nat),i≤W.length→W.length-i<k→qj N k W (i:Int) W=some true
 |0,_,_,h=>by omega
 |k+1,i,hi,hk=>by
  show Jd N (qj N k) W (i:Int) W=_;unfold Jd;by_cases hl:i<W.length
  ·rw[decide_eq_true (by omega),cond_true,zt.2 ⟨by omega,by omega⟩,za,za,za,decide_eq_true rfl,Bool.not_true,cond_false,zB (by omega) (by omega),za];exact zpF hW k (i+1) (by omega) (by omega)
  ·rw[decide_eq_false (by omega),cond_false]
theorem zpG{N m:Nat}{o:jx}(ho:o.length≤1000)(hm:∀x∈o,x.1<m){got:List Int}{e:Int}:∀(k j:Nat),j≤o.length→o.length-j<k→
  yI N k got e (ov o) (j:Int) (cntO m (o.take j))=cond (!decide (e=0)) (some false) (cond (!decide ((got.length:Int)=((cntO m o).length:Int))) (some false) (qj N N got 0 (cntO m o)))
 |0,_,_,h=>by omega
 |k+1,j,hj,hk=>by
  show Je N (yI N k) got e (ov o) (j:Int) (cntO m (o.take j))=_;unfold Je;rw[zcn];by_cases hl:j<o.length
  ·have hat:atV (ov o) (j:Int)=JA o[j]:=yT JA hl;have hin:zg (j:Int) o.length=true:=zt.2 ⟨by omega,by omega⟩;have hb:=hm o[j] (List.getElem_mem hl);have htk:o.take (j+1)=o.take j++[o[j]]:=(List.take_append_getElem hl).symm;have hc:zg ((o[j].1:Nat):Int) (cntO m (o.take j)).length=true:=zt.2 ⟨by omega,by rw[K2];omega⟩;have hs:(cntO m (o.take j)).set o[j].1 (atI (cntO m (o.take j)) ((o[j].1:Nat):Int)+1)=cntO m (o.take (j+1)):=by rw[htk];exact zeP hb
   have h2:=zgL (o:=o.take j) hb;have h3:(o.take j).countP (fun a=>decide (a.1=o[j].1))≤(o.take j).length:=List.countP_le_length;have h4:(o.take j).length≤1000:=by rw[List.length_take];omega
   rw[decide_eq_true (show(j:Int)<(o.length:Int)by omega),cond_true,hat,hin];show chk true (chk (zg ((o[j].1:Nat):Int) (cntO m (o.take j)).length) (chk (zg ((o[j].1:Nat):Int) (cntO m (o.take j)).length) (chk (inKb .i64 (atI (cntO m (o.take j)) ((o[j].1:Nat):Int)+1)) (chk (zg ((o[j].1:Nat):Int) (cntO m (o.take j)).length) (chk (zg ((o[j].1:Nat):Int) (cntO m (o.take j)).length) (chk (inKb .i64 ((j:Int)+1)) (yI N k got e (ov o) ((j+1:Nat):Int) ((cntO m (o.take j)).set o[j].1 (atI (cntO m (o.take j)) ((o[j].1:Nat):Int)+1)))))))))=_;rw[hc,hs,za,za,za,zB (by omega) (by omega),za,za,za,zB (by omega) (by omega),za];exact zpG ho hm k (j+1) (by omega) (by omega)
  ·rw[decide_eq_false (by omega),cond_false,List.take_of_length_le (by omega)]
def YS(L:List Rule)(n:Int):Bool:=!(L.any fun r=>!yd r n)
theorem zjH(L:List Rule)(r:Rule)(n:Int):YS (L++[r]) n=(YS L n&&yd r n):=by unfold YS;rw[List.any_append,List.any_cons,List.any_nil];cases(L.any fun r=>!yd r n)<;>cases yd r n<;>rfl
section
variable {N : Nat} (hN : 1000 < N) {T : List UInt8} (hT : T.length ≤ 500) {D : List (List UInt8)} (hD : Short D) (h1 : 1 ≤ D.length) (h6 : D.length ≤ 6)
include hN hT hD h1
theorem zlm{L:List Rule}(hL:L.length≤5)(hs:∀r∈L,Small r):qP N T (dv D) (YS L (D.length:Int)) (lv L)=some true:=by
 unfold qP YS;rw[zmg hN hT hD h1 hL hs,zj];cases hb:(L.any fun r=>!yd r (D.length:Int))with
 |true=>rfl
 |false=>
  have hv:∀r∈L,VR D r:=fun r hr=>zuR (by
   have:=List.any_eq_false.1 hb r hr;simpa using this)
  have hr:=zfg (T:=T) (D:=D) (L:=L) N 0 [] (Nat.zero_le _) (fun x h=>by cases h);rw[Bool.not_false,Bool.not_true,cond_false,zcs hN hT hD hL hv,zj,jE,zcu (by omega),decide_eq_true rfl,show(true&&true)=true from rfl,za,zia];have hlen:(run T D L N 0 []).length≤1000:=by have:=hr.2;simp only[List.length_nil]at this;omega
  have:=zpG (N:=N) (m:=L.length) hlen hr.1 (got:=cntO L.length (run T D L N 0 [])) (e:=0) N 0 (Nat.zero_le _) (by omega);refine Eq.trans this ?_;rw[decide_eq_true rfl,decide_eq_true rfl,Bool.not_true,cond_false,cond_false];exact zpF (by rw[K2];omega) N 0 (Nat.zero_le _) (by rw[K2];omega)
theorem zwp:YF N T (dv D) true=some true:=zlm hN hT hD h1 (L:=[]) (by simp) (fun r h=>by cases h)
def rV(x:R):AV:=.agg [.int .u8 x.How,.int .u8 x.What,.int .u8 x.By,.int .u8 x.Before,.int .u8 x.After]
variable {xs : List AV} (h5 : xs.length ≤ 5) (hx : ∀ v ∈ xs, ∃ r, v = rV r ∧ InR20 r)
include h6 h5 hx
theorem zpM:∀(k i:Nat)(L:List Rule),L.length=i→(∀r∈L,Small r)→i≤xs.length→xs.length-i<k→
  jD N k (.inr (xs,T,dv D,YS L (D.length:Int),(i:Int),lv L))=some true
 |0,_,_,_,_,_,h=>by omega
 |k+1,i,L,hL,hs,hi,hk=>by
  show ZI N (jD N k) xs T (dv D) (YS L (D.length:Int)) (i:Int) (lv L)=_;unfold ZI;by_cases hl:i<xs.length
  ·obtain⟨x,e,hx1⟩:=hx xs[i] (List.getElem_mem hl);have hat:atV xs (i:Int)=rV x:=by rw[←e];have:=yT (fun v:AV=>v) hl;rwa [List.map_id']at this
   obtain⟨r,hr,hrs,_⟩:=Xp (N:=N) hx1 (n:=(D.length:Int)) ⟨by omega,by omega⟩ false;rw[decide_eq_true (show(i:Int)<(xs.length:Int)by omega),cond_true,hat,zt.2 ⟨by omega,by omega⟩,qL];show chk true (bnd (Yp N x (D.length:Int) false) _)=_;rw[za,hr,zj];have e2:lv L++([.agg [.int .i64 r.Count,.int .u8 r.How,.int .i64 r.What,.int .i64 r.By,.int .i64 r.Before,.int .i64 r.After]]:List AV)=lv (L++[r]):=by unfold lv;rw[List.map_append];rfl
   have hat2:atV (lv (L++[r])) (i:Int)=yl r:=by have:=yT yl (l:=L++[r]) (i:=i) (by rw[List.length_append,hL];simp);refine Eq.trans this ?_;rw[List.getElem_append_right (by omega)];simp[hL]
   have hlen:(lv (L++[r])).length=i+1:=by rw[jE,List.length_append,hL];rfl
   have hs2:∀q∈L++[r],Small q:=fun q hq=>by
    rcases List.mem_append.1 hq with h|h
    ·exact hs q h
    ·rw[List.mem_singleton.1 h];exact hrs
   rw[e2,hat2,Z6 (by omega) (by rw[hlen];omega),za,show zg (i:Int) (lv (L++[r])).length=true from zt.2 ⟨by omega,by rw[hlen];omega⟩];have ih:=zpM k (i+1) (L++[r]) (by rw[List.length_append,hL];rfl) hs2 (by omega) (by omega);rw[zjH]at ih;show cond (YS L (D.length:Int)) (chk true (chk true (bnd (ZN N r (D.length:Int) false) fun v=>chk (inKb .i64 ((i:Int)+1)) (jD N k (.inr (xs,T,dv D,v,((i+1:Nat):Int),lv (L++[r]))))))) (chk (inKb .i64 ((i:Int)+1)) (jD N k (.inr (xs,T,dv D,false,((i+1:Nat):Int),lv (L++[r])))))=_;rw[za,za,zeE,zj,zB (by omega) (by omega),za,za];cases hg:YS L (D.length:Int)with
   |true=>rw[hg]at ih;exact ih
   |false=>rw[hg]at ih;exact ih
  ·rw[decide_eq_false (by omega),cond_false];exact zlm hN hT hD h1 (by omega) hs
theorem zpN{k:Nat}(hk:xs.length<k):jD N k (.inl (xs,T,dv D,true,0))=some true:=by
 obtain⟨k,rfl⟩:∃k',k=k'+1:=⟨k-1,by omega⟩
 show ZJ N (jD N k) xs T (dv D) true 0=_;unfold ZJ;by_cases hl:0<xs.length
 ·obtain⟨x,e,hx1⟩:=hx xs[0] (List.getElem_mem hl);have hat:atV xs 0=rV x:=by rw[←e];have:=yT (fun v:AV=>v) hl;rw[List.map_id']at this;exact this
  obtain⟨r,hr,hrs,_⟩:=Xp (N:=N) hx1 (n:=(D.length:Int)) ⟨by omega,by omega⟩ false;rw[decide_eq_true (show(0:Int)<(xs.length:Int)by omega),cond_true,hat,zt.2 ⟨by omega,by omega⟩,qL];show chk true (bnd (Yp N x (D.length:Int) false) _)=_;rw[za,hr,zj];have ih:=zpM hN hT hD h1 h6 h5 hx k 1 [r] rfl (fun q hq=>by rw[List.mem_singleton.1 hq];exact hrs) (by omega) (by omega);rw[show YS [r] (D.length:Int)=yd r (D.length:Int)from by unfold YS;rw[List.any_cons,List.any_nil];cases yd r (D.length:Int)<;>rfl]at ih;show chk true (cond true (chk true (chk true (bnd (ZN N r (D.length:Int) false) fun v=>chk (inKb .i64 (0+1)) (jD N k (.inr (xs,T,dv D,v,((1:Nat):Int),lv [r])))))) _)=_;rw[za,cond_true,za,za,zeE,zj,zB (by omega) (by omega),za];exact ih
 ·rw[decide_eq_false (by omega),cond_false];exact zwp hN hT hD h1
end
theorem zdW(b:List UInt8)(l x:List AV)(hl:∀v∈l,∃b,v=.rob false b)(hx:∀v∈x,∃r,v=rV r∧InR20 r):∃N,qw N b l x=some true:=by
 refine⟨2000,?_⟩;unfold qw;by_cases h1:30<b.length
 ·rw[decide_eq_true (by omega),cond_true]
 ·rw[decide_eq_false (by omega),cond_false];by_cases h2:5<x.length
  ·rw[decide_eq_true (by omega),cond_true]
  ·obtain⟨T,e1,hT⟩:=VU (N:=2000) (n:=30) (by omega) (by omega) b;obtain⟨D,e2,hD,hD1,hD6⟩:=KW (N:=2000) (by omega) hl;rw[decide_eq_false (by omega),cond_false,show YP 2000 b 30=some T from e1,zj,e2,zj];exact zpN (by omega) (by omega) hD.short hD1 hD6 (by omega) hx (by omega)
end Go.Proofs.C06
end
section
set_option maxRecDepth 100000
namespace Go.Proofs.C06
open Go Go.RowKit Go.Vc Go.Am
def byP(D:List (List UInt8))(r:Rule):List UInt8:=D.getD r.By.toNat []
def ziL(D:List (List UInt8))(L:List Rule)(out:List UInt8)(a:Nat×Nat×Nat):List UInt8:=match L[a.1]? with
 |some r=>yy out (byP D r) a.2.1 a.2.2
 |none=>out
def qp(T:List UInt8)(D:List (List UInt8))(L:List Rule)(o:jx):List UInt8:=o.foldl (ziL D L) T
theorem zep(T:List UInt8)(D:List (List UInt8))(L:List Rule)(o:jx)(a:Nat×Nat×Nat):qp T D L (o++[a])=ziL D L (qp T D L o) a:=by unfold qp;rw[List.foldl_append];rfl
def yc(D:List (List UInt8))(r:Rule):Prop:=0≤r.By∧r.By<(D.length:Int)
abbrev RT:=Int×Int×List AV×List AV×List UInt8
section
variable {N : Nat} {T : List UInt8} (hT : T.length ≤ 500) {D : List (List UInt8)} (hD : Short D)
def stR(T:List UInt8)(D:List (List UInt8))(L:List Rule)(o:jx):RT:=(0,(T.length:Int),dv D,lv L,qp T D L o)
include hT in
theorem yi{L:List Rule}{o:jx}{i a n:Nat}{r:Rule}{j:Int}(hj:j=(i:Int))(hi:L[i]? =some r)(hb:yc D r)(han:a+n≤T.length):
  Ya N j (a:Int) (n:Int) 0 (T.length:Int) (dv D) (lv L) (qp T D L o)=some (stR T D L (o++[(i,a,n)])):=by
 subst hj;obtain⟨hlt,he⟩:=List.getElem?_eq_some_iff.1 hi;have hat:atV (lv L) (i:Int)=yl r:=by rw[←he];exact yT yl hlt
 have hin:zg (i:Int) (lv L).length=true:=zt.2 ⟨by omega,by rw[jE];omega⟩;unfold Ya;rw[zB (by omega) (by omega),za,decide_eq_true (show(0:Int)≤(a:Int)by omega),decide_eq_true (show(a:Int)≤(a:Int)+(n:Int)by omega),decide_eq_true (show(a:Int)+(n:Int)≤(T.length:Int)by omega),hat,hin];show chk true (chk true (chk (zg r.By (dv D).length&&zd (atV (dv D) r.By)) (some ((0:Int),(T.length:Int),dv D,lv L,yy (qp T D L o) (bytesOf (atV (dv D) r.By)) ((0:Int)+(a:Int)).toNat ((a:Int)+(n:Int)-(a:Int)).toNat))))=_;rw[za,za,qB hb.1 hb.2,za,Zg hb.1 hb.2,show((0:Int)+(a:Int)).toNat=a by omega,show((a:Int)+(n:Int)-(a:Int)).toNat=n by omega];unfold stR;rw[zep];unfold ziL;dsimp only;rw[hi];rfl
include hT hD
omit hD in
theorem zlp:∀(k a:Nat)(o:jx),a≤T.length→T.length-a<k→o.length+(T.length-a)≤1000→zdf N k T (a:Int) 0 (T.length:Int) (dv D) (lv ([]:List Rule)) (qp T D ([]:List Rule) o)=some (stR T D ([]:List Rule) (run T D ([]:List Rule) k a o))
 |0,_,_,_,h,_=>by omega
 |k+1,a,o,ha,hk,ho=>by
  show zde N (zdf N k) T (a:Int) 0 (T.length:Int) (dv D) (lv ([]:List Rule)) (qp T D ([]:List Rule) o)=_;unfold zde run;by_cases hl:a<T.length
  ·rw[decide_eq_true (show(a:Int)<(T.length:Int)by omega),cond_true,if_pos hl];have st:stp T D o a ([]:List Rule) 0=none:=by simp only[stp]
   rw[show zq 0 1=1 from rfl,zB (by omega) (by omega),za,st];exact zlp k (a+1) o (by omega) (by omega) (by omega)
  ·rw[decide_eq_false (by omega),cond_false,if_neg hl];rfl
theorem zgq{r0:Rule}(v0:VR D r0)(b0:yc D r0):∀(k a:Nat)(o:jx),a≤T.length→T.length-a<k→o.length+(T.length-a)≤1000→zdd N k T (a:Int) 0 (T.length:Int) (dv D) (lv [r0]) (qp T D [r0] o) (jd T D r0 0 o)=some (stR T D [r0] (run T D [r0] k a o))
 |0,_,_,_,h,_=>by omega
 |k+1,a,o,ha,hk,ho=>by
  show zdc N (zdd N k) T (a:Int) 0 (T.length:Int) (dv D) (lv [r0]) (qp T D [r0] o) (jd T D r0 0 o)=_;unfold zdc run;by_cases hl:a<T.length
  ·rw[decide_eq_true (show(a:Int)<(T.length:Int)by omega),cond_true,if_pos hl];rw[zx hT hD v0 ha,zj];cases c0:jF T D r0 0 o a with
   |true=>
    have hp:=zY c0;have hr:=zN c0;have st:stp T D o a [r0] 0=some (0,nP D r0):=by simp only[stp,c0,if_true]
    have mx:zq (nP D r0:Int) 1=(nP D r0:Int):=by rw[zM,if_neg (by omega)]
    rw[if_pos rfl,decide_eq_true (show(0:Int)<(nP D r0:Int)by omega),cond_true,zB (by omega) (by omega),za,yi hT (L:=[r0]) (i:=0) (r:=r0) (by rfl) rfl b0 hr,zj,mx,zB (by omega) (by omega),za,st];have:=zgq v0 b0 k (a+nP D r0) (o++[(0,a,nP D r0)]) (by omega) (by omega) (by rw[List.length_append];simp only[List.length_cons,List.length_nil];omega);rw[zQ (r:=r0)]at this;exact this
   |false=>
    rw[if_neg (by decide),decide_eq_false (show¬(0:Int)<0 by decide),cond_false];have st:stp T D o a [r0] 0=none:=by simp only[stp,c0,Bool.false_eq_true,if_false]
    rw[show zq 0 1=1 from rfl,zB (by omega) (by omega),za,st];exact zgq v0 b0 k (a+1) o (by omega) (by omega) (by omega)
  ·rw[decide_eq_false (by omega),cond_false,if_neg hl];rfl
theorem zbR{r0 r1:Rule}(v0:VR D r0)(b0:yc D r0)(v1:VR D r1)(b1:yc D r1):∀(k a:Nat)(o:jx),a≤T.length→T.length-a<k→o.length+(T.length-a)≤1000→zdb N k T (a:Int) 0 (T.length:Int) (dv D) (lv [r0,r1]) (qp T D [r0,r1] o) (jd T D r0 0 o) (jd T D r1 1 o)=some (stR T D [r0,r1] (run T D [r0,r1] k a o))
 |0,_,_,_,h,_=>by omega
 |k+1,a,o,ha,hk,ho=>by
  show zda N (zdb N k) T (a:Int) 0 (T.length:Int) (dv D) (lv [r0,r1]) (qp T D [r0,r1] o) (jd T D r0 0 o) (jd T D r1 1 o)=_;unfold zda run;by_cases hl:a<T.length
  ·rw[decide_eq_true (show(a:Int)<(T.length:Int)by omega),cond_true,if_pos hl];rw[zx hT hD v0 ha,zj];cases c0:jF T D r0 0 o a with
   |true=>
    have hp:=zY c0;have hr:=zN c0;have st:stp T D o a [r0,r1] 0=some (0,nP D r0):=by simp only[stp,c0,if_true,Nat.zero_add]
    have mx:zq (nP D r0:Int) 1=(nP D r0:Int):=by rw[zM,if_neg (by omega)]
    rw[if_pos rfl,decide_eq_true (show(0:Int)<(nP D r0:Int)by omega),cond_true,zB (by omega) (by omega),za,yi hT (L:=[r0,r1]) (i:=0) (r:=r0) (by rfl) rfl b0 hr,zj,mx,zB (by omega) (by omega),za,st];have:=zbR v0 b0 v1 b1 k (a+nP D r0) (o++[(0,a,nP D r0)]) (by omega) (by omega) (by rw[List.length_append];simp only[List.length_cons,List.length_nil];omega);rw[ze (r:=r1) (i:=1) (j:=0) (by decide),zQ (r:=r0)]at this;exact this
   |false=>
    rw[if_neg (by decide),decide_eq_false (show¬(0:Int)<0 by decide),cond_false];rw[zx hT hD v1 ha,zj];cases c1:jF T D r1 1 o a with
    |true=>
     have hp:=zY c1;have hr:=zN c1;have st:stp T D o a [r0,r1] 0=some (1,nP D r1):=by simp only[stp,c0,c1,if_true,Bool.false_eq_true,if_false,Nat.zero_add]
     have mx:zq (nP D r1:Int) 1=(nP D r1:Int):=by rw[zM,if_neg (by omega)]
     rw[if_pos rfl,decide_eq_true (show(0:Int)<(nP D r1:Int)by omega),cond_true,zB (by omega) (by omega),za,yi hT (L:=[r0,r1]) (i:=1) (r:=r1) (by rfl) rfl b1 hr,zj,mx,zB (by omega) (by omega),za,st];have:=zbR v0 b0 v1 b1 k (a+nP D r1) (o++[(1,a,nP D r1)]) (by omega) (by omega) (by rw[List.length_append];simp only[List.length_cons,List.length_nil];omega);rw[ze (r:=r0) (i:=0) (j:=1) (by decide),zQ (r:=r1)]at this;exact this
    |false=>
     rw[if_neg (by decide),decide_eq_false (show¬(0:Int)<0 by decide),cond_false];have st:stp T D o a [r0,r1] 0=none:=by simp only[stp,c0,c1,Bool.false_eq_true,if_false,Nat.zero_add]
     rw[show zq 0 1=1 from rfl,zB (by omega) (by omega),za,st];exact zbR v0 b0 v1 b1 k (a+1) o (by omega) (by omega) (by omega)
  ·rw[decide_eq_false (by omega),cond_false,if_neg hl];rfl
theorem KV{r0 r1 r2:Rule}(v0:VR D r0)(b0:yc D r0)(v1:VR D r1)(b1:yc D r1)(v2:VR D r2)(b2:yc D r2):∀(k a:Nat)(o:jx),a≤T.length→T.length-a<k→o.length+(T.length-a)≤1000→zc9 N k T (a:Int) 0 (T.length:Int) (dv D) (lv [r0,r1,r2]) (qp T D [r0,r1,r2] o) (jd T D r0 0 o) (jd T D r1 1 o) (jd T D r2 2 o)=some (stR T D [r0,r1,r2] (run T D [r0,r1,r2] k a o))
 |0,_,_,_,h,_=>by omega
 |k+1,a,o,ha,hk,ho=>by
  show zc8 N (zc9 N k) T (a:Int) 0 (T.length:Int) (dv D) (lv [r0,r1,r2]) (qp T D [r0,r1,r2] o) (jd T D r0 0 o) (jd T D r1 1 o) (jd T D r2 2 o)=_;unfold zc8 run;by_cases hl:a<T.length
  ·rw[decide_eq_true (show(a:Int)<(T.length:Int)by omega),cond_true,if_pos hl];rw[zx hT hD v0 ha,zj];cases c0:jF T D r0 0 o a with
   |true=>
    have hp:=zY c0;have hr:=zN c0;have st:stp T D o a [r0,r1,r2] 0=some (0,nP D r0):=by simp only[stp,c0,if_true,Nat.zero_add,Nat.reduceAdd]
    have mx:zq (nP D r0:Int) 1=(nP D r0:Int):=by rw[zM,if_neg (by omega)]
    rw[if_pos rfl,decide_eq_true (show(0:Int)<(nP D r0:Int)by omega),cond_true,zB (by omega) (by omega),za,yi hT (L:=[r0,r1,r2]) (i:=0) (r:=r0) (by rfl) rfl b0 hr,zj,mx,zB (by omega) (by omega),za,st];have:=KV v0 b0 v1 b1 v2 b2 k (a+nP D r0) (o++[(0,a,nP D r0)]) (by omega) (by omega) (by rw[List.length_append];simp only[List.length_cons,List.length_nil];omega);rw[ze (r:=r1) (i:=1) (j:=0) (by decide),ze (r:=r2) (i:=2) (j:=0) (by decide),zQ (r:=r0)]at this;exact this
   |false=>
    rw[if_neg (by decide),decide_eq_false (show¬(0:Int)<0 by decide),cond_false];rw[zx hT hD v1 ha,zj];cases c1:jF T D r1 1 o a with
    |true=>
     have hp:=zY c1;have hr:=zN c1;have st:stp T D o a [r0,r1,r2] 0=some (1,nP D r1):=by simp only[stp,c0,c1,if_true,Bool.false_eq_true,if_false,Nat.zero_add,Nat.reduceAdd]
     have mx:zq (nP D r1:Int) 1=(nP D r1:Int):=by rw[zM,if_neg (by omega)]
     rw[if_pos rfl,decide_eq_true (show(0:Int)<(nP D r1:Int)by omega),cond_true,zB (by omega) (by omega),za,yi hT (L:=[r0,r1,r2]) (i:=1) (r:=r1) (by rfl) rfl b1 hr,zj,mx,zB (by omega) (by omega),za,st];have:=KV v0 b0 v1 b1 v2 b2 k (a+nP D r1) (o++[(1,a,nP D r1)]) (by omega) (by omega) (by rw[List.length_append];simp only[List.length_cons,List.length_nil];omega);rw[ze (r:=r0) (i:=0) (j:=1) (by decide),ze (r:=r2) (i:=2) (j:=1) (by decide),zQ (r:=r1)]at this;exact this
    |false=>
     rw[if_neg (by decide),decide_eq_false (show¬(0:Int)<0 by decide),cond_false];rw[zx hT hD v2 ha,zj];cases c2:jF T D r2 2 o a with
     |true=>
      have hp:=zY c2;have hr:=zN c2;have st:stp T D o a [r0,r1,r2] 0=some (2,nP D r2):=by simp only[stp,c0,c1,c2,if_true,Bool.false_eq_true,if_false,Nat.zero_add,Nat.reduceAdd]
      have mx:zq (nP D r2:Int) 1=(nP D r2:Int):=by rw[zM,if_neg (by omega)]
      rw[if_pos rfl,decide_eq_true (show(0:Int)<(nP D r2:Int)by omega),cond_true,zB (by omega) (by omega),za,yi hT (L:=[r0,r1,r2]) (i:=2) (r:=r2) (by rfl) rfl b2 hr,zj,mx,zB (by omega) (by omega),za,st];have:=KV v0 b0 v1 b1 v2 b2 k (a+nP D r2) (o++[(2,a,nP D r2)]) (by omega) (by omega) (by rw[List.length_append];simp only[List.length_cons,List.length_nil];omega);rw[ze (r:=r0) (i:=0) (j:=2) (by decide),ze (r:=r1) (i:=1) (j:=2) (by decide),zQ (r:=r2)]at this;exact this
     |false=>
      rw[if_neg (by decide),decide_eq_false (show¬(0:Int)<0 by decide),cond_false];have st:stp T D o a [r0,r1,r2] 0=none:=by simp only[stp,c0,c1,c2,Bool.false_eq_true,if_false,Nat.zero_add,Nat.reduceAdd]
      rw[show zq 0 1=1 from rfl,zB (by omega) (by omega),za,st];exact KV v0 b0 v1 b1 v2 b2 k (a+1) o (by omega) (by omega) (by omega)
  ·rw[decide_eq_false (by omega),cond_false,if_neg hl];rfl
theorem Qq{r0 r1 r2 r3:Rule}(v0:VR D r0)(b0:yc D r0)(v1:VR D r1)(b1:yc D r1)(v2:VR D r2)(b2:yc D r2)(v3:VR D r3)(b3:yc D r3):∀(k a:Nat)(o:jx),a≤T.length→T.length-a<k→o.length+(T.length-a)≤1000→zc7 N k T (a:Int) 0 (T.length:Int) (dv D) (lv [r0,r1,r2,r3]) (qp T D [r0,r1,r2,r3] o) (jd T D r0 0 o) (jd T D r1 1 o) (jd T D r2 2 o) (jd T D r3 3 o)=some (stR T D [r0,r1,r2,r3] (run T D [r0,r1,r2,r3] k a o))
 |0,_,_,_,h,_=>by omega
 |k+1,a,o,ha,hk,ho=>by
  show zc6 N (zc7 N k) T (a:Int) 0 (T.length:Int) (dv D) (lv [r0,r1,r2,r3]) (qp T D [r0,r1,r2,r3] o) (jd T D r0 0 o) (jd T D r1 1 o) (jd T D r2 2 o) (jd T D r3 3 o)=_;unfold zc6 run;by_cases hl:a<T.length
  ·rw[decide_eq_true (show(a:Int)<(T.length:Int)by omega),cond_true,if_pos hl];rw[zx hT hD v0 ha,zj];cases c0:jF T D r0 0 o a with
   |true=>
    have hp:=zY c0;have hr:=zN c0;have st:stp T D o a [r0,r1,r2,r3] 0=some (0,nP D r0):=by simp only[stp,c0,if_true,Nat.zero_add,Nat.reduceAdd]
    have mx:zq (nP D r0:Int) 1=(nP D r0:Int):=by rw[zM,if_neg (by omega)]
    rw[if_pos rfl,decide_eq_true (show(0:Int)<(nP D r0:Int)by omega),cond_true,zB (by omega) (by omega),za,yi hT (L:=[r0,r1,r2,r3]) (i:=0) (r:=r0) (by rfl) rfl b0 hr,zj,mx,zB (by omega) (by omega),za,st];have:=Qq v0 b0 v1 b1 v2 b2 v3 b3 k (a+nP D r0) (o++[(0,a,nP D r0)]) (by omega) (by omega) (by rw[List.length_append];simp only[List.length_cons,List.length_nil];omega);rw[ze (r:=r1) (i:=1) (j:=0) (by decide),ze (r:=r2) (i:=2) (j:=0) (by decide),ze (r:=r3) (i:=3) (j:=0) (by decide),zQ (r:=r0)]at this;exact this
   |false=>
    rw[if_neg (by decide),decide_eq_false (show¬(0:Int)<0 by decide),cond_false];rw[zx hT hD v1 ha,zj];cases c1:jF T D r1 1 o a with
    |true=>
     have hp:=zY c1;have hr:=zN c1;have st:stp T D o a [r0,r1,r2,r3] 0=some (1,nP D r1):=by simp only[stp,c0,c1,if_true,Bool.false_eq_true,if_false,Nat.zero_add,Nat.reduceAdd]
     have mx:zq (nP D r1:Int) 1=(nP D r1:Int):=by rw[zM,if_neg (by omega)]
     rw[if_pos rfl,decide_eq_true (show(0:Int)<(nP D r1:Int)by omega),cond_true,zB (by omega) (by omega),za,yi hT (L:=[r0,r1,r2,r3]) (i:=1) (r:=r1) (by rfl) rfl b1 hr,zj,mx,zB (by omega) (by omega),za,st];have:=Qq v0 b0 v1 b1 v2 b2 v3 b3 k (a+nP D r1) (o++[(1,a,nP D r1)]) (by omega) (by omega) (by rw[List.length_append];simp only[List.length_cons,List.length_nil];omega);rw[ze (r:=r0) (i:=0) (j:=1) (by decide),ze (r:=r2) (i:=2) (j:=1) (by decide),ze (r:=r3) (i:=3) (j:=1) (by decide),zQ (r:=r1)]at this;exact this
    |false=>
     rw[if_neg (by decide),decide_eq_false (show¬(0:Int)<0 by decide),cond_false];rw[zx hT hD v2 ha,zj];cases c2:jF T D r2 2 o a with
     |true=>
      have hp:=zY c2;have hr:=zN c2;have st:stp T D o a [r0,r1,r2,r3] 0=some (2,nP D r2):=by simp only[stp,c0,c1,c2,if_true,Bool.false_eq_true,if_false,Nat.zero_add,Nat.reduceAdd]
      have mx:zq (nP D r2:Int) 1=(nP D r2:Int):=by rw[zM,if_neg (by omega)]
      rw[if_pos rfl,decide_eq_true (show(0:Int)<(nP D r2:Int)by omega),cond_true,zB (by omega) (by omega),za,yi hT (L:=[r0,r1,r2,r3]) (i:=2) (r:=r2) (by rfl) rfl b2 hr,zj,mx,zB (by omega) (by omega),za,st];have:=Qq v0 b0 v1 b1 v2 b2 v3 b3 k (a+nP D r2) (o++[(2,a,nP D r2)]) (by omega) (by omega) (by rw[List.length_append];simp only[List.length_cons,List.length_nil];omega);rw[ze (r:=r0) (i:=0) (j:=2) (by decide),ze (r:=r1) (i:=1) (j:=2) (by decide),ze (r:=r3) (i:=3) (j:=2) (by decide),zQ (r:=r2)]at this;exact this
     |false=>
      rw[if_neg (by decide),decide_eq_false (show¬(0:Int)<0 by decide),cond_false];rw[zx hT hD v3 ha,zj];cases c3:jF T D r3 3 o a with
      |true=>
       have hp:=zY c3;have hr:=zN c3;have st:stp T D o a [r0,r1,r2,r3] 0=some (3,nP D r3):=by simp only[stp,c0,c1,c2,c3,if_true,Bool.false_eq_true,if_false,Nat.zero_add,Nat.reduceAdd]
       have mx:zq (nP D r3:Int) 1=(nP D r3:Int):=by rw[zM,if_neg (by omega)]
       rw[if_pos rfl,decide_eq_true (show(0:Int)<(nP D r3:Int)by omega),cond_true,zB (by omega) (by omega),za,yi hT (L:=[r0,r1,r2,r3]) (i:=3) (r:=r3) (by rfl) rfl b3 hr,zj,mx,zB (by omega) (by omega),za,st];have:=Qq v0 b0 v1 b1 v2 b2 v3 b3 k (a+nP D r3) (o++[(3,a,nP D r3)]) (by omega) (by omega) (by rw[List.length_append];simp only[List.length_cons,List.length_nil];omega);rw[ze (r:=r0) (i:=0) (j:=3) (by decide),ze (r:=r1) (i:=1) (j:=3) (by decide),ze (r:=r2) (i:=2) (j:=3) (by decide),zQ (r:=r3)]at this;exact this
      |false=>
       rw[if_neg (by decide),decide_eq_false (show¬(0:Int)<0 by decide),cond_false];have st:stp T D o a [r0,r1,r2,r3] 0=none:=by simp only[stp,c0,c1,c2,c3,Bool.false_eq_true,if_false,Nat.zero_add,Nat.reduceAdd]
       rw[show zq 0 1=1 from rfl,zB (by omega) (by omega),za,st];exact Qq v0 b0 v1 b1 v2 b2 v3 b3 k (a+1) o (by omega) (by omega) (by omega)
  ·rw[decide_eq_false (by omega),cond_false,if_neg hl];rfl
theorem JO{r0 r1 r2 r3 r4:Rule}(v0:VR D r0)(b0:yc D r0)(v1:VR D r1)(b1:yc D r1)(v2:VR D r2)(b2:yc D r2)(v3:VR D r3)(b3:yc D r3)(v4:VR D r4)(b4:yc D r4):∀(k a:Nat)(o:jx),a≤T.length→T.length-a<k→o.length+(T.length-a)≤1000→zc5 N k T (a:Int) 0 (T.length:Int) (dv D) (lv [r0,r1,r2,r3,r4]) (qp T D [r0,r1,r2,r3,r4] o) (jd T D r0 0 o) (jd T D r1 1 o) (jd T D r2 2 o) (jd T D r3 3 o) (jd T D r4 4 o)=some (stR T D [r0,r1,r2,r3,r4] (run T D [r0,r1,r2,r3,r4] k a o))
 |0,_,_,_,h,_=>by omega
 |k+1,a,o,ha,hk,ho=>by
  show zc4 N (zc5 N k) T (a:Int) 0 (T.length:Int) (dv D) (lv [r0,r1,r2,r3,r4]) (qp T D [r0,r1,r2,r3,r4] o) (jd T D r0 0 o) (jd T D r1 1 o) (jd T D r2 2 o) (jd T D r3 3 o) (jd T D r4 4 o)=_;unfold zc4 run;by_cases hl:a<T.length
  ·rw[decide_eq_true (show(a:Int)<(T.length:Int)by omega),cond_true,if_pos hl];rw[zx hT hD v0 ha,zj];cases c0:jF T D r0 0 o a with
   |true=>
    have hp:=zY c0;have hr:=zN c0;have st:stp T D o a [r0,r1,r2,r3,r4] 0=some (0,nP D r0):=by simp only[stp,c0,if_true,Nat.zero_add,Nat.reduceAdd]
    have mx:zq (nP D r0:Int) 1=(nP D r0:Int):=by rw[zM,if_neg (by omega)]
    rw[if_pos rfl,decide_eq_true (show(0:Int)<(nP D r0:Int)by omega),cond_true,zB (by omega) (by omega),za,yi hT (L:=[r0,r1,r2,r3,r4]) (i:=0) (r:=r0) (by rfl) rfl b0 hr,zj,mx,zB (by omega) (by omega),za,st];have:=JO v0 b0 v1 b1 v2 b2 v3 b3 v4 b4 k (a+nP D r0) (o++[(0,a,nP D r0)]) (by omega) (by omega) (by rw[List.length_append];simp only[List.length_cons,List.length_nil];omega);rw[ze (r:=r1) (i:=1) (j:=0) (by decide),ze (r:=r2) (i:=2) (j:=0) (by decide),ze (r:=r3) (i:=3) (j:=0) (by decide),ze (r:=r4) (i:=4) (j:=0) (by decide),zQ (r:=r0)]at this;exact this
   |false=>
    rw[if_neg (by decide),decide_eq_false (show¬(0:Int)<0 by decide),cond_false];rw[zx hT hD v1 ha,zj];cases c1:jF T D r1 1 o a with
    |true=>
     have hp:=zY c1;have hr:=zN c1;have st:stp T D o a [r0,r1,r2,r3,r4] 0=some (1,nP D r1):=by simp only[stp,c0,c1,if_true,Bool.false_eq_true,if_false,Nat.zero_add,Nat.reduceAdd]
     have mx:zq (nP D r1:Int) 1=(nP D r1:Int):=by rw[zM,if_neg (by omega)]
     rw[if_pos rfl,decide_eq_true (show(0:Int)<(nP D r1:Int)by omega),cond_true,zB (by omega) (by omega),za,yi hT (L:=[r0,r1,r2,r3,r4]) (i:=1) (r:=r1) (by rfl) rfl b1 hr,zj,mx,zB (by omega) (by omega),za,st];have:=JO v0 b0 v1 b1 v2 b2 v3 b3 v4 b4 k (a+nP D r1) (o++[(1,a,nP D r1)]) (by omega) (by omega) (by rw[List.length_append];simp only[List.length_cons,List.length_nil];omega);rw[ze (r:=r0) (i:=0) (j:=1) (by decide),ze (r:=r2) (i:=2) (j:=1) (by decide),ze (r:=r3) (i:=3) (j:=1) (by decide),ze (r:=r4) (i:=4) (j:=1) (by decide),zQ (r:=r1)]at this;exact this
    |false=>
     rw[if_neg (by decide),decide_eq_false (show¬(0:Int)<0 by decide),cond_false];rw[zx hT hD v2 ha,zj];cases c2:jF T D r2 2 o a with
     |true=>
      have hp:=zY c2;have hr:=zN c2;have st:stp T D o a [r0,r1,r2,r3,r4] 0=some (2,nP D r2):=by simp only[stp,c0,c1,c2,if_true,Bool.false_eq_true,if_false,Nat.zero_add,Nat.reduceAdd]
      have mx:zq (nP D r2:Int) 1=(nP D r2:Int):=by rw[zM,if_neg (by omega)]
      rw[if_pos rfl,decide_eq_true (show(0:Int)<(nP D r2:Int)by omega),cond_true,zB (by omega) (by omega),za,yi hT (L:=[r0,r1,r2,r3,r4]) (i:=2) (r:=r2) (by rfl) rfl b2 hr,zj,mx,zB (by omega) (by omega),za,st];have:=JO v0 b0 v1 b1 v2 b2 v3 b3 v4 b4 k (a+nP D r2) (o++[(2,a,nP D r2)]) (by omega) (by omega) (by rw[List.length_append];simp only[List.length_cons,List.length_nil];omega);rw[ze (r:=r0) (i:=0) (j:=2) (by decide),ze (r:=r1) (i:=1) (j:=2) (by decide),ze (r:=r3) (i:=3) (j:=2) (by decide),ze (r:=r4) (i:=4) (j:=2) (by decide),zQ (r:=r2)]at this;exact this
     |false=>
      rw[if_neg (by decide),decide_eq_false (show¬(0:Int)<0 by decide),cond_false];rw[zx hT hD v3 ha,zj];cases c3:jF T D r3 3 o a with
      |true=>
       have hp:=zY c3;have hr:=zN c3;have st:stp T D o a [r0,r1,r2,r3,r4] 0=some (3,nP D r3):=by simp only[stp,c0,c1,c2,c3,if_true,Bool.false_eq_true,if_false,Nat.zero_add,Nat.reduceAdd]
       have mx:zq (nP D r3:Int) 1=(nP D r3:Int):=by rw[zM,if_neg (by omega)]
       rw[if_pos rfl,decide_eq_true (show(0:Int)<(nP D r3:Int)by omega),cond_true,zB (by omega) (by omega),za,yi hT (L:=[r0,r1,r2,r3,r4]) (i:=3) (r:=r3) (by rfl) rfl b3 hr,zj,mx,zB (by omega) (by omega),za,st];have:=JO v0 b0 v1 b1 v2 b2 v3 b3 v4 b4 k (a+nP D r3) (o++[(3,a,nP D r3)]) (by omega) (by omega) (by rw[List.length_append];simp only[List.length_cons,List.length_nil];omega);rw[ze (r:=r0) (i:=0) (j:=3) (by decide),ze (r:=r1) (i:=1) (j:=3) (by decide),ze (r:=r2) (i:=2) (j:=3) (by decide),ze (r:=r4) (i:=4) (j:=3) (by decide),zQ (r:=r3)]at this;exact this
      |false=>
       rw[if_neg (by decide),decide_eq_false (show¬(0:Int)<0 by decide),cond_false];rw[zx hT hD v4 ha,zj];cases c4:jF T D r4 4 o a with
       |true=>
        have hp:=zY c4;have hr:=zN c4;have st:stp T D o a [r0,r1,r2,r3,r4] 0=some (4,nP D r4):=by simp only[stp,c0,c1,c2,c3,c4,if_true,Bool.false_eq_true,if_false,Nat.zero_add,Nat.reduceAdd]
        have mx:zq (nP D r4:Int) 1=(nP D r4:Int):=by rw[zM,if_neg (by omega)]
        rw[if_pos rfl,decide_eq_true (show(0:Int)<(nP D r4:Int)by omega),cond_true,zB (by omega) (by omega),za,yi hT (L:=[r0,r1,r2,r3,r4]) (i:=4) (r:=r4) (by rfl) rfl b4 hr,zj,mx,zB (by omega) (by omega),za,st];have:=JO v0 b0 v1 b1 v2 b2 v3 b3 v4 b4 k (a+nP D r4) (o++[(4,a,nP D r4)]) (by omega) (by omega) (by rw[List.length_append];simp only[List.length_cons,List.length_nil];omega);rw[ze (r:=r0) (i:=0) (j:=4) (by decide),ze (r:=r1) (i:=1) (j:=4) (by decide),ze (r:=r2) (i:=2) (j:=4) (by decide),ze (r:=r3) (i:=3) (j:=4) (by decide),zQ (r:=r4)]at this;exact this
       |false=>
        rw[if_neg (by decide),decide_eq_false (show¬(0:Int)<0 by decide),cond_false];have st:stp T D o a [r0,r1,r2,r3,r4] 0=none:=by simp only[stp,c0,c1,c2,c3,c4,Bool.false_eq_true,if_false,Nat.zero_add,Nat.reduceAdd]
        rw[show zq 0 1=1 from rfl,zB (by omega) (by omega),za,st];exact JO v0 b0 v1 b1 v2 b2 v3 b3 v4 b4 k (a+1) o (by omega) (by omega) (by omega)
  ·rw[decide_eq_false (by omega),cond_false,if_neg hl];rfl
omit hT hD in
def q9(N:Nat)(T:List UInt8)(D:List (List UInt8))(r:Rule)(F:List UInt8→Int×Int→Option RT):Option RT:=cond (decide (0≤r.What)) (chk (zg r.What (dv D).length&&zd (atV (dv D) r.What)) (bnd (zc N T r.Before r.After (dv D)) fun p=>F (bytesOf (atV (dv D) r.What)) p)) (bnd (zc N T r.Before r.After (dv D)) fun p=>F [] p)
theorem jM{r:Rule}(v:VR D r)(F:List UInt8→Int×Int→Option RT):q9 N T D r F=F (zZ D r) (frP T D r,tP T D r):=by
 unfold q9;rw[zhS hT hD v.h3 v.h4,zj,zj];by_cases h:0≤r.What
 ·rw[decide_eq_true h,cond_true,qB h v.h2,za,Zg h v.h2,show zZ D r=D.getD r.What.toNat []from by unfold zZ sel;rw[if_pos h];rfl];rfl
 ·rw[decide_eq_false h,cond_false,show zZ D r=[]from by unfold zZ sel;rw[if_neg h];rfl];rfl
variable (hN : 1000 < N)
include hN
omit hD in
theorem zvP:iR0 N T () (dv D) 0 (T.length:Int) (dv D) (lv []) T=some (stR T D [] (run T D [] N 0 [])):=
 zlp hT (D:=D) N 0 [] (Nat.zero_le _) (by omega) (by simp;omega)
theorem zvO{r0:Rule}(v0:VR D r0)(b0:yc D r0):iR1 N T r0 (dv D) 0 (T.length:Int) (dv D) (lv [r0]) T=some (stR T D [r0] (run T D [r0] N 0 [])):=by show chk true (q9 N T D r0 fun w0 p0=>zgr N T 0 (T.length:Int) (dv D) (lv [r0]) T (qq r0 w0 p0))=_;rw[za,jM hT hD v0];exact zgq hT hD v0 b0 N 0 [] (Nat.zero_le _) (by omega) (by simp;omega)
theorem zvN{r0 r1:Rule}(v0:VR D r0)(b0:yc D r0)(v1:VR D r1)(b1:yc D r1):iR2 N T r0 r1 (dv D) 0 (T.length:Int) (dv D) (lv [r0,r1]) T=some (stR T D [r0,r1] (run T D [r0,r1] N 0 [])):=by show chk true (q9 N T D r0 fun w0 p0=>q9 N T D r1 fun w1 p1=>VV N T 0 (T.length:Int) (dv D) (lv [r0,r1]) T (qq r0 w0 p0) (qq r1 w1 p1))=_;rw[za,jM hT hD v0,jM hT hD v1];exact zbR hT hD v0 b0 v1 b1 N 0 [] (Nat.zero_le _) (by omega) (by simp;omega)
theorem zvM{r0 r1 r2:Rule}(v0:VR D r0)(b0:yc D r0)(v1:VR D r1)(b1:yc D r1)(v2:VR D r2)(b2:yc D r2):iR3 N T r0 r1 r2 (dv D) 0 (T.length:Int) (dv D) (lv [r0,r1,r2]) T=some (stR T D [r0,r1,r2] (run T D [r0,r1,r2] N 0 [])):=by show chk true (q9 N T D r0 fun w0 p0=>q9 N T D r1 fun w1 p1=>q9 N T D r2 fun w2 p2=>Jg N T 0 (T.length:Int) (dv D) (lv [r0,r1,r2]) T (qq r0 w0 p0) (qq r1 w1 p1) (qq r2 w2 p2))=_;rw[za,jM hT hD v0,jM hT hD v1,jM hT hD v2];exact KV hT hD v0 b0 v1 b1 v2 b2 N 0 [] (Nat.zero_le _) (by omega) (by simp;omega)
theorem zvL{r0 r1 r2 r3:Rule}(v0:VR D r0)(b0:yc D r0)(v1:VR D r1)(b1:yc D r1)(v2:VR D r2)(b2:yc D r2)(v3:VR D r3)(b3:yc D r3):iR4 N T r0 r1 r2 r3 (dv D) 0 (T.length:Int) (dv D) (lv [r0,r1,r2,r3]) T=some (stR T D [r0,r1,r2,r3] (run T D [r0,r1,r2,r3] N 0 [])):=by show chk true (q9 N T D r0 fun w0 p0=>q9 N T D r1 fun w1 p1=>q9 N T D r2 fun w2 p2=>q9 N T D r3 fun w3 p3=>yw N T 0 (T.length:Int) (dv D) (lv [r0,r1,r2,r3]) T (qq r0 w0 p0) (qq r1 w1 p1) (qq r2 w2 p2) (qq r3 w3 p3))=_;rw[za,jM hT hD v0,jM hT hD v1,jM hT hD v2,jM hT hD v3];exact Qq hT hD v0 b0 v1 b1 v2 b2 v3 b3 N 0 [] (Nat.zero_le _) (by omega) (by simp;omega)
theorem zvK{r0 r1 r2 r3 r4:Rule}(v0:VR D r0)(b0:yc D r0)(v1:VR D r1)(b1:yc D r1)(v2:VR D r2)(b2:yc D r2)(v3:VR D r3)(b3:yc D r3)(v4:VR D r4)(b4:yc D r4):iR5 N T r0 r1 r2 r3 r4 (dv D) 0 (T.length:Int) (dv D) (lv [r0,r1,r2,r3,r4]) T=some (stR T D [r0,r1,r2,r3,r4] (run T D [r0,r1,r2,r3,r4] N 0 [])):=by show chk true (q9 N T D r0 fun w0 p0=>q9 N T D r1 fun w1 p1=>q9 N T D r2 fun w2 p2=>q9 N T D r3 fun w3 p3=>q9 N T D r4 fun w4 p4=>jh N T 0 (T.length:Int) (dv D) (lv [r0,r1,r2,r3,r4]) T (qq r0 w0 p0) (qq r1 w1 p1) (qq r2 w2 p2) (qq r3 w3 p3) (qq r4 w4 p4))=_;rw[za,jM hT hD v0,jM hT hD v1,jM hT hD v2,jM hT hD v3,jM hT hD v4];exact JO hT hD v0 b0 v1 b1 v2 b2 v3 b3 v4 b4 N 0 [] (Nat.zero_le _) (by omega) (by simp;omega)
theorem zvJ:∀{L:List Rule},L.length≤5→(∀r∈L,VR D r∧yc D r)→iRU N T (lv L) (dv D) 0 (T.length:Int) (dv D) (lv L) T=some (stR T D L (run T D L N 0 []))
 |[],_,_=>zvP hT hN
 |[r0],_,v=>zvO hT hD hN (v r0 (by simp)).1 (v r0 (by simp)).2
 |[r0,r1],_,v=>zvN hT hD hN (v r0 (by simp)).1 (v r0 (by simp)).2 (v r1 (by simp)).1 (v r1 (by simp)).2
 |[r0,r1,r2],_,v=>zvM hT hD hN (v r0 (by simp)).1 (v r0 (by simp)).2 (v r1 (by simp)).1 (v r1 (by simp)).2 (v r2 (by simp)).1 (v r2 (by simp)).2
 |[r0,r1,r2,r3],_,v=>zvL hT hD hN (v r0 (by simp)).1 (v r0 (by simp)).2 (v r1 (by simp)).1 (v r1 (by simp)).2 (v r2 (by simp)).1 (v r2 (by simp)).2 (v r3 (by simp)).1 (v r3 (by simp)).2
 |[r0,r1,r2,r3,r4],_,v=>zvK hT hD hN (v r0 (by simp)).1 (v r0 (by simp)).2 (v r1 (by simp)).1 (v r1 (by simp)).2 (v r2 (by simp)).1 (v r2 (by simp)).2 (v r3 (by simp)).1 (v r3 (by simp)).2 (v r4 (by simp)).1 (v r4 (by simp)).2
 |_::_::_::_::_::_::_,h,_=>absurd h (by simp only[List.length_cons];omega)
end
end Go.Proofs.C06
end
section
set_option maxRecDepth 100000
namespace Go.Proofs.C06
open Go Go.RowKit Go.Vc Go.Am
def zki(r:Rule)(n:Int):Bool:=decide (-1≤r.Before)&&decide (r.Before<n)&&decide (-1≤r.After)&&decide (r.After<n)&&decide (0≤r.By)&&decide (r.By<n)
def yq(r:Rule)(n:Int):Bool:=decide (1≤r.How)&&(decide (r.How≤3)||decide (r.How=4))&&decide (r.What<n)&&(decide (0≤r.What)&&!decide (r.How=1)||decide (r.What= -1)&&decide (r.How=1))&&zki r n
theorem zbX{r:Rule}{n:Int}:yq r n=true↔1≤r.How∧r.How≤4∧r.What<n∧(0≤r.What∧r.How≠1∨r.What= -1∧r.How=1)∧ -1≤r.Before∧r.Before<n∧ -1≤r.After∧r.After<n∧0≤r.By∧r.By<n:=by
 unfold yq zki;simp only[Bool.and_eq_true,Bool.or_eq_true,decide_eq_true_eq,Bool.not_eq_true',decide_eq_false_iff_not];constructor
 ·intro h;exact⟨by omega,by omega,by omega,by omega,by omega,by omega,by omega,by omega,by omega,by omega⟩
 ·intro h;exact⟨⟨⟨⟨by omega,by omega⟩,by omega⟩,by omega⟩,⟨⟨⟨⟨by omega,by omega⟩,by omega⟩,by omega⟩,by omega⟩,by omega⟩
theorem zjz{N:Nat}{r:Rule}{n:Int}{ok:Bool}:jc N n true ok r=some (ok&&zki r n):=by unfold jc qk zki;cases ok<;>cases decide (-1≤r.Before)<;>cases decide (r.Before<n)<;>cases decide (-1≤r.After)<;>cases decide (r.After<n)<;>cases decide (0≤r.By)<;>rfl
theorem zjA{N:Nat}{r:Rule}{n:Int}:ZN N r n true=some (yq r n):=by unfold ZN yq;simp only[zjz];cases decide (1≤r.How)<;>cases decide (r.How≤3)<;>cases decide (r.What<n)<;>cases decide (0≤r.What)<;>cases decide (r.How=1)<;>cases decide (r.What= -1)<;>cases decide (r.How=4)<;>rfl
theorem zmA{N:Nat}(hN:1000<N){r:Rule}(hr:Small r){n:Int}(_hn:1≤n):zhU N r n true=some (yq r n):=by
 obtain⟨c,w,b,p,a,h⟩:=hr;show ZQ N n true 4 r=_;unfold ZQ;rw[zB (n:=r.What) (by omega) (by omega),zB (n:=r.By) (by omega) (by omega),zB (n:=r.Before) (by omega) (by omega),zB (n:=r.After) (by omega) (by omega),show(true&&(true&&(true&&(true&&true))))=true from rfl,za,zcN hN (by simp),zj];have e:yq r n=(decide (1≤r.How)&&(decide (r.How≤4)&&((!([r.What,r.By,r.Before,r.After]:List Int).any (zgR n))&&(decide (decide (r.What<0)=decide (r.How=1))&&decide (decide (0≤r.By)=true))))):=by
  rw[Bool.eq_iff_iff,zbX];simp only[zgR,List.any_cons,List.any_nil,Bool.and_eq_true,decide_eq_true_eq,Bool.not_eq_true',Bool.or_eq_false_iff,decide_eq_false_iff_not,decide_eq_decide];constructor
  ·intro q;exact⟨by omega,by omega,⟨by omega,by omega,by omega,by omega,trivial⟩,by omega,by omega⟩
  ·intro q;exact⟨by omega,by omega,by omega,by omega,by omega,by omega,by omega,by omega,by omega,by omega⟩
 rw[e];cases decide (1≤r.How)<;>cases decide (r.How≤4)<;>cases([r.What,r.By,r.Before,r.After]:List Int).any (zgR n)<;>cases decide (decide (r.What<0)=decide (r.How=1))<;>rfl
theorem zkf{r:Rule}{D:List (List UInt8)}(h:yq r (D.length:Int)=true):VR D r∧yc D r:=by obtain⟨h1,h2,h3,h4,h5,h6,h7,h8,h9,h10⟩:=zbX.1 h;exact⟨⟨fun q=>by omega,h3,h6,h8,fun q=>by omega⟩,h9,h10⟩
def QC(D:List (List UInt8))(r:Rule):Bool:=decide ((byP D r).length=nP D r)
theorem zqy{D:List (List UInt8)}{r:Rule}(b:yc D r):bytesOf (atV (dv D) r.By)=byP D r:=by rw[Zg b.1 b.2];rfl
theorem zlB{D:List (List UInt8)}{r:Rule}(h0:0≤r.What)(h:r.What<(D.length:Int)):bytesOf (atV (dv D) r.What)=zZ D r:=by rw[Zg h0 h];unfold zZ sel;rw[if_pos h0];rfl
theorem zmp{N:Nat}{D:List (List UInt8)}{r:Rule}(v:VR D r)(b:yc D r):zc2 N r (dv D)=some (!QC D r,dv D):=by
 have e:∀m:Nat,decide (((byP D r).length:Int)=(m:Int))=decide ((byP D r).length=m):=fun m=>decide_eq_decide.2 ⟨fun h=>by omega,fun h=>by omega⟩
 unfold zc2 zpZ QC nP;rw[qB b.1 b.2,za,zqy b];by_cases h:r.How=1
 ·rw[decide_eq_true h,cond_true,zj,if_pos h];exact congrArg (fun z=>some (!z,dv D)) (e 1)
 ·have h0:=v.h5 h;rw[decide_eq_false h,cond_false,qB h0 v.h2,za,zj,if_neg h,zlB h0 v.h2];exact congrArg (fun z=>some (!z,dv D)) (e _)
theorem zmq{N:Nat}(hN:1000<N){D:List (List UInt8)}(hD:1≤D.length){r:Rule}(s:Small r):zc3 N r (dv D)=some (!yq r (D.length:Int),dv D):=by unfold zc3;rw[qL,zmA hN s (by omega),zj]
theorem zcK{N:Nat}(hN:1000<N){L:List Rule}(hL:L.length≤5){D:List (List UInt8)}(hD:1≤D.length)(hs:∀r∈L,Small r):∀(k i:Nat),i≤L.length→L.length-i<k→
  ∃r,ZM N k (lv L) ((lv L).length:Int) (i:Int) (dv D)=some (r,dv D)∧decide (0≤r)=(L.drop i).any fun r=>!yq r (D.length:Int)
 |0,_,_,h=>by omega
 |k+1,i,hi,hk=>by
  show∃r,Q4 N (ZM N k) (lv L) ((lv L).length:Int) (i:Int) (dv D)=some (r,dv D)∧_;unfold Q4;by_cases hl:i<L.length
  ·have hat:atV (lv L) (i:Int)=yl L[i]:=yT yl hl;have hin:zg (i:Int) (lv L).length=true:=zt.2 ⟨by omega,by rw[jE];omega⟩;rw[decide_eq_true (show(i:Int)<((lv L).length:Int)by rw[jE];omega),cond_true,hat,hin,List.drop_eq_getElem_cons hl,List.any_cons];show∃r,chk true (bnd (zc3 N L[i] (dv D)) _)=_∧_;rw[za,zmq hN hD (hs _ (List.getElem_mem hl)),zj];cases yq L[i] (D.length:Int)with
   |false=>exact⟨(i:Int),rfl,by rw[decide_eq_true (by omega)];rfl⟩
   |true=>show∃r,chk _ (ZM N k (lv L) ((lv L).length:Int) ((i+1:Nat):Int) (dv D))=_∧_;rw[zB (by omega) (by omega),za];exact zcK hN hL hD hs k (i+1) (by omega) (by omega)
  ·rw[decide_eq_false (by rw[jE];omega),cond_false,List.drop_eq_nil_of_le (by omega)];exact⟨-1,rfl,rfl⟩
theorem zqs{N:Nat}(hN:1000<N){L:List Rule}(hL:L.length≤5){D:List (List UInt8)}(hD:1≤D.length)(hs:∀r∈L,Small r):zlA N (lv L) (dv D)=some (L.any fun r=>!yq r (D.length:Int),dv D):=by unfold zlA zpW;obtain⟨r,h1,h2⟩:=zcK hN hL hD hs N 0 (Nat.zero_le _) (by omega);rw[show ZM N N (lv L) ((lv L).length:Int) 0 (dv D)=some (r,dv D)from h1,zj,h2];rfl
theorem zcJ{N:Nat}(hN:1000<N){L:List Rule}(hL:L.length≤5){D:List (List UInt8)}(hD:1≤D.length)(hs:∀r∈L,VR D r∧yc D r):∀(k i:Nat),i≤L.length→L.length-i<k→
  ∃r,ZL N k (lv L) ((lv L).length:Int) (i:Int) (dv D)=some (r,dv D)∧decide (0≤r)=(L.drop i).any fun r=>!QC D r
 |0,_,_,h=>by omega
 |k+1,i,hi,hk=>by
  show∃r,Q3 N (ZL N k) (lv L) ((lv L).length:Int) (i:Int) (dv D)=some (r,dv D)∧_;unfold Q3;by_cases hl:i<L.length
  ·have hat:atV (lv L) (i:Int)=yl L[i]:=yT yl hl;have hin:zg (i:Int) (lv L).length=true:=zt.2 ⟨by omega,by rw[jE];omega⟩;rw[decide_eq_true (show(i:Int)<((lv L).length:Int)by rw[jE];omega),cond_true,hat,hin,List.drop_eq_getElem_cons hl,List.any_cons];show∃r,chk true (bnd (zc2 N L[i] (dv D)) _)=_∧_;rw[za,zmp (hs _ (List.getElem_mem hl)).1 (hs _ (List.getElem_mem hl)).2,zj];cases QC D L[i]with
   |false=>exact⟨(i:Int),rfl,by rw[decide_eq_true (by omega)];rfl⟩
   |true=>show∃r,chk _ (ZL N k (lv L) ((lv L).length:Int) ((i+1:Nat):Int) (dv D))=_∧_;rw[zB (by omega) (by omega),za];exact zcJ hN hL hD hs k (i+1) (by omega) (by omega)
  ·rw[decide_eq_false (by rw[jE];omega),cond_false,List.drop_eq_nil_of_le (by omega)];exact⟨-1,rfl,rfl⟩
theorem zqr{N:Nat}(hN:1000<N){L:List Rule}(hL:L.length≤5){D:List (List UInt8)}(hD:1≤D.length)(hs:∀r∈L,VR D r∧yc D r):zlz N (lv L) (dv D)=some (L.any fun r=>!QC D r,dv D):=by unfold zlz zpV;obtain⟨r,h1,h2⟩:=zcJ hN hL hD hs N 0 (Nat.zero_le _) (by omega);rw[show ZL N N (lv L) ((lv L).length:Int) 0 (dv D)=some (r,dv D)from h1,zj,h2];rfl
theorem zel{l b:List UInt8}{a k:Nat}(hk:k≤b.length)(ha:a+k≤l.length)(i:Nat):(yy l b a k)[i]? =if i<a then l[i]? else if i<a+k then b[i-a]? else l[i]? :=by
 unfold yy;have h1:(l.take a).length=a:=by rw[List.length_take];omega
 have h2:(b.take k).length=k:=by rw[List.length_take];omega
 rw[List.append_assoc];by_cases c1:i<a
 ·rw[if_pos c1,List.getElem?_append_left (by omega),List.getElem?_take,if_pos c1]
 ·rw[if_neg c1,List.getElem?_append_right (by omega),h1];by_cases c2:i<a+k
  ·rw[if_pos c2,List.getElem?_append_left (by omega),List.getElem?_take,if_pos (by omega)]
  ·rw[if_neg c2,List.getElem?_append_right (by omega),h2,List.getElem?_drop];congr 1;omega
theorem Vy{l b:List UInt8}{a k:Nat}(ha:a+k≤l.length):(yy l b a k).length=l.length:=by unfold yy;rw[List.length_append,List.length_append,List.length_take,List.length_take,List.length_drop];omega
theorem putAt_zero(l b:List UInt8)(a:Nat):yy l b a 0=l:=by unfold yy;rw[List.take_zero,List.append_nil,Nat.min_zero,Nat.add_zero,List.take_append_drop]
theorem zja{l b:List UInt8}{a k:Nat}(hk:k<b.length)(ha:a+k<l.length):(yy l b a k).set (a+k) b[k]=yy l b a (k+1):=by
 refine List.ext_getElem? fun i=>?_
 rw[List.getElem?_set,zel (by omega) (by omega),zel (by omega) (by omega),Vy (by omega)];by_cases h:a+k=i
 ·subst h;rw[if_pos rfl,if_pos ha,if_neg (by omega),if_pos (by omega),show a+k-a=k by omega,List.getElem?_eq_getElem hk]
 ·rw[if_neg h];by_cases c1:i<a
  ·rw[if_pos c1,if_pos c1]
  ·rw[if_neg c1,if_neg c1];by_cases c2:i<a+k
   ·rw[if_pos c2,if_pos (by omega)]
   ·rw[if_neg c2,if_neg (by omega)]
def Hit(T:List UInt8)(D:List (List UInt8))(L:List Rule)(x:Nat×Nat×Nat):Prop:=∃r,L[x.1]? =some r∧x.2.2=nP D r∧x.2.1+x.2.2≤T.length
theorem zmZ{T:List UInt8}{D:List (List UInt8)}{o:jx}{a:Nat}:∀{L:List Rule}{i j n:Nat},stp T D o a L i=some (j,n)→i≤j∧∃r,L[j-i]? =some r∧n=nP D r
 |[],_,_,_,h=>by cases h
 |r::L,i,j,n,h=>by
  unfold stp at h;split at h
  ·cases h;exact⟨Nat.le_refl _,r,by rw[Nat.sub_self];rfl,rfl⟩
  ·obtain⟨h1,q,h2,h3⟩:=zmZ h;exact⟨by omega,q,by rw[show j-i=(j-(i+1))+1 by omega];exact h2,h3⟩
theorem W3{T:List UInt8}{D:List (List UInt8)}{L:List Rule}:∀(k a:Nat)(o:jx),(∀x∈o,Hit T D L x)→∀x∈run T D L k a o,Hit T D L x
 |0,_,_,h=>h
 |k+1,a,o,h=>by
  unfold run;by_cases hl:a<T.length
  ·rw[if_pos hl];cases hs:stp T D o a L 0 with
   |none=>exact W3 k (a+1) o h
   |some p=>
    obtain⟨j,n⟩:=p;refine W3 k (a+n) (o++[(j,a,n)]) fun x hx=>?_
    rcases List.mem_append.1 hx with q|q
    ·exact h x q
    ·rw[List.mem_singleton.1 q];obtain⟨_,r,h2,h3⟩:=zmZ hs;exact⟨r,h2,h3,(ze8 hs).2.1⟩
  ·rw[if_neg hl];exact h
theorem zkn{T:List UInt8}{D:List (List UInt8)}:∀(k a:Nat)(o:jx),run T D [] k a o=o
 |0,_,_=>rfl
 |k+1,a,o=>by
  unfold run;by_cases hl:a<T.length
  ·rw[if_pos hl];exact zkn k (a+1) o
  ·rw[if_neg hl]
theorem zco{T:List UInt8}{D:List (List UInt8)}{L:List Rule}:∀(o:jx)(w:List UInt8),w.length=T.length→(∀x∈o,Hit T D L x)→(o.foldl (ziL D L) w).length=T.length
 |[],_,h,_=>h
 |x::o,w,h,hx=>by
  refine zco o (ziL D L w x) ?_ fun y hy=>hx y (List.mem_cons_of_mem _ hy)
  obtain⟨r,h1,_,h3⟩:=hx x (List.mem_cons_self ..);unfold ziL;rw[h1];show(yy w (byP D r) x.2.1 x.2.2).length=_;rw[Vy (by omega),h]
theorem WC{N:Nat}(hN:1000<N){T:List UInt8}(hT:T.length≤500){D:List (List UInt8)}(hD:Short D)(hD1:1≤D.length){L:List Rule}(hL:L.length≤5)(hs:∀r∈L,Small r):
  Jr N T (lv L) (dv D)=some (if(L.any fun r=>!yq r (D.length:Int))then([],1)else if(L.any fun r=>!QC D r)then([],5)else(qp T D L (run T D L N 0 []),0)):=by
 unfold Jr;rw[zqs hN hL hD1 hs,zj];cases hb:(L.any fun r=>!yq r (D.length:Int))with
 |true=>rfl
 |false=>
  have hv:∀r∈L,VR D r∧yc D r:=fun r hr=>zkf (by
   have:=List.any_eq_false.1 hb r hr;simpa using this)
  rw[cond_false,zqr hN hL hD1 hv,zj];cases hf:(L.any fun r=>!QC D r)with
  |true=>rfl
  |false=>have hlen:(qp T D L (run T D L N 0 [])).length=T.length:=zco _ _ rfl (W3 N 0 [] fun x h=>by cases h);unfold K3;rw[cond_false,Nat.ble_eq_true_of_le (show T.length≤1000000000000 by omega),za,zj,z6.2 ⟨by omega,by omega,by omega⟩,decide_eq_true rfl,show(true&&true)=true from rfl,za,Int.sub_zero,zvJ hT hD hN hL hv,zj];unfold stR;show some (Am.subL (qp T D L (run T D L N 0 [])) 0 (0+(T.length:Int)),(0:Int))=some (qp T D L (run T D L N 0 []),0);unfold Am.subL;rw[Int.zero_add,Int.toNat_natCast,List.take_of_length_le (by omega)];rfl
end Go.Proofs.C06
end
section
set_option maxRecDepth 100000
namespace Go.Proofs.C06
open Go Go.RowKit Go.Vc Go.Am
def J3(L:List Rule)(n:Int):Bool:=!(L.any fun r=>!yq r n)
def zeJ(D:List (List UInt8))(L:List Rule):Bool:=!(L.any fun r=>!QC D r)
theorem Q6(L:List Rule)(r:Rule)(n:Int):J3 (L++[r]) n=(J3 L n&&yq r n):=by unfold J3;rw[List.any_append,List.any_cons,List.any_nil];cases(L.any fun r=>!yq r n)<;>cases yq r n<;>rfl
theorem zjM(D:List (List UInt8))(L:List Rule)(r:Rule):zeJ D (L++[r])=(zeJ D L&&QC D r):=by unfold zeJ;rw[List.any_append,List.any_cons,List.any_nil];cases(L.any fun r=>!QC D r)<;>cases QC D r<;>rfl
theorem act0(a:Nat×Nat×Nat):Am.intOf (cellOf (JA a) 0)=(a.1:Int):=rfl
theorem zwS(a:Nat×Nat×Nat):Am.intOf (cellOf (JA a) 1)=(a.2.1:Int):=rfl
theorem zwR(a:Nat×Nat×Nat):Am.intOf (cellOf (JA a) 2)=(a.2.2:Int):=rfl
theorem zwC(a:Nat×Nat×Nat):(qc (JA a) 3&&(zh .i64 (cellOf (JA a) 0)&&(zh .i64 (cellOf (JA a) 1)&&(zh .i64 (cellOf (JA a) 2)&&true))))=true:=rfl
theorem zwh(r:Rule):(qc (yl r) 6&&(zh .i64 (cellOf (yl r) 0)&&(zh .u8 (cellOf (yl r) 1)&&(zh .i64 (cellOf (yl r) 2)&&(zh .i64 (cellOf (yl r) 3)&&(zh .i64 (cellOf (yl r) 4)&&(zh .i64 (cellOf (yl r) 5)&&true)))))))=true:=rfl
theorem zwF(r:Rule):Am.intOf (cellOf (yl r) 3)=r.By:=rfl
section
variable {N : Nat} (hN : 1000 < N) {T : List UInt8} (hT : T.length ≤ 500) {D : List (List UInt8)} (hD : Short D) (h1 : 1 ≤ D.length)
abbrev G3:=((List AV×List UInt8×Int×List AV×Int×List UInt8)⊕(List AV×List AV×List UInt8×Int×List AV×Int×List UInt8))→Option Bool
theorem zpL{L:List Rule}{o:jx}(ho:o.length≤1000){j:Nat}(hj:j<o.length){r:Rule}(hr:L[o[j].1]? =some r)(hb:yc D r)(hf:(byP D r).length=o[j].2.2){w:List UInt8}(hw:o[j].2.1+o[j].2.2≤w.length)(hw5:w.length≤500){go3:G3}{got:List UInt8}{e:Int}:
  ∀(k m:Nat),m≤o[j].2.2→o[j].2.2-m<k→j4 N go3 k (.inr (dv D,lv L,got,e,ov o,(j:Int),(m:Int),yy w (byP D r) o[j].2.1 m))=go3 (.inr (dv D,lv L,got,e,ov o,(j:Int)+1,yy w (byP D r) o[j].2.1 o[j].2.2))
 |0,_,_,h=>by omega
 |k+1,m,hm,hk=>by
  have hat:atV (ov o) (j:Int)=JA o[j]:=yT JA hj;have hin:zg (j:Int) (ov o).length=true:=zt.2 ⟨by omega,by rw[zcn];omega⟩;obtain⟨hlt,he⟩:=List.getElem?_eq_some_iff.1 hr;have hat2:atV (lv L) ((o[j].1:Nat):Int)=yl r:=by rw[←he];exact yT yl hlt
  have hin2:zg ((o[j].1:Nat):Int) (lv L).length=true:=zt.2 ⟨by omega,by rw[jE];omega⟩;show qI N go3 (j4 N go3 k) (dv D) (lv L) got e (ov o) (j:Int) (m:Int) (yy w (byP D r) o[j].2.1 m)=_;unfold qI;rw[hat,hin,act0,zwS,zwR,zwC];by_cases hl:m<o[j].2.2
  ·have hbl:m<(byP D r).length:=by omega
   have eb:byteAt (byP D r) (m:Int)=((byP D r)[m].toNat:Int):=by unfold byteAt;rw[Int.toNat_natCast,List.getD_eq_getElem?_getD,List.getElem?_eq_getElem hbl];rfl
   rw[show(true&&true)=true from rfl,za,decide_eq_true (show(m:Int)<((o[j].2.2:Nat):Int)by omega),cond_true,za,zB (n:=((o[j].2.1:Nat):Int)+(m:Int)) (by omega) (by omega),za,za,hat2,hin2,zwh,zwF,show(true&&true)=true from rfl,za,qB hb.1 hb.2,zqy hb,eb,Vy (by omega),za];have hix:zg (((o[j].2.1:Nat):Int)+(m:Int)) w.length=true:=zt.2 ⟨by omega,by omega⟩;have hu:inKb .u8 ((byP D r)[m].toNat:Int)=true:=ZK.2 ⟨by show(0:Int)≤_;omega,by show _≤(255:Int);have:=(byP D r)[m].toNat_lt;omega⟩;have ht:toByte ((byP D r)[m].toNat:Int)=(byP D r)[m]:=by unfold toByte;rw[Int.toNat_natCast];simp
   rw[hix,hu,ht,show(((o[j].2.1:Nat):Int)+(m:Int)).toNat=o[j].2.1+m by omega,zja hbl (by omega),zt.2 ⟨by omega,by omega⟩,za,za,show(true&&true)=true from rfl,za,zB (by omega) (by omega),za];exact zpL ho hj hr hb hf hw hw5 k (m+1) (by omega) (by omega)
  ·obtain rfl:m=o[j].2.2:=by omega
   rw[show(true&&true)=true from rfl,za,decide_eq_false (by omega),cond_false,zB (by omega) (by omega),za]
include hN hT in
theorem zlk{L:List Rule}{o:jx}(ho:o.length≤1000)(hh:∀x∈o,Hit T D L x)(hv:∀r∈L,VR D r∧yc D r)(hf:∀r∈L,(byP D r).length=nP D r){got:List UInt8}{e:Int}:∀(k j:Nat),j≤o.length→o.length-j<k→
  jq N k (.inr (dv D,lv L,got,e,ov o,(j:Int),qp T D L (o.take j)))=yp N got e (qp T D L o)
 |0,_,_,h=>by omega
 |k+1,j,hj,hk=>by
  show qJ N (jq N k) (dv D) (lv L) got e (ov o) (j:Int) (qp T D L (o.take j))=_;unfold qJ;rw[zcn];by_cases hl:j<o.length
  ·obtain⟨r,hr,hn,hfit⟩:=hh o[j] (List.getElem_mem hl);have hm:=List.mem_of_getElem? hr;have hw:(qp T D L (o.take j)).length=T.length:=zco _ _ rfl fun x hx=>hh x (List.mem_of_mem_take hx)
   rw[decide_eq_true (by omega),cond_true];have:=zpL (N:=N) ho hl hr (hv r hm).2 (by rw[hf r hm,hn]) (w:=qp T D L (o.take j)) (by omega) (by omega) (go3:=jq N k) (got:=got) (e:=e) N 0 (Nat.zero_le _) (by omega);rw[putAt_zero]at this;refine Eq.trans this ?_;have e2:yy (qp T D L (o.take j)) (byP D r) o[j].2.1 o[j].2.2=qp T D L (o.take (j+1)):=by rw[←List.take_append_getElem hl,zep];unfold ziL;rw[hr]
   rw[e2];exact zlk ho hh hv hf k (j+1) (by omega) (by omega)
  ·rw[decide_eq_false (by omega),cond_false,List.take_of_length_le (by omega)]
theorem zuK{N:Nat}(w:List UInt8):yp N w 0 w=some true:=by unfold yp;rw[decide_eq_true rfl,decide_eq_true rfl,decide_eq_true rfl];rfl
include hN hT hD h1
theorem ztT{L:List Rule}(hL:L.length≤5)(hs:∀r∈L,Small r){fits:Bool}(hfit:J3 L (D.length:Int)=true→fits=zeJ D L):yZ N T (J3 L (D.length:Int)) fits (dv D) (lv L)=some true:=by
 unfold yZ;rw[WC hN hT hD h1 hL hs,zj];unfold J3 at hfit⊢;cases hb:(L.any fun r=>!yq r (D.length:Int))with
 |true=>rfl
 |false=>
  have hv:∀r∈L,VR D r∧yc D r:=fun r hr=>zkf (by
   have:=List.any_eq_false.1 hb r hr;simpa using this)
  rw[hfit (by rw[hb];rfl)];unfold zeJ;cases hf:(L.any fun r=>!QC D r)with
  |true=>rfl
  |false=>
   have hf2:∀r∈L,(byP D r).length=nP D r:=fun r hr=>by have:=List.any_eq_false.1 hf r hr;unfold QC at this;simpa using this
   have hr:=zfg (T:=T) (D:=D) (L:=L) N 0 [] (Nat.zero_le _) (fun x h=>by cases h);have hh:=W3 (T:=T) (D:=D) (L:=L) N 0 [] (fun x h=>by cases h);have hlen:(run T D L N 0 []).length≤1000:=by have:=hr.2;simp only[List.length_nil]at this;omega
   rw[Bool.not_false,Bool.not_true,cond_false,cond_false,zcs hN hT hD hL (fun r hr=>(hv r hr).1),zj,show([].map toByte++T)=T from rfl,Z6 (by omega) (by omega),za];have:=zlk hN hT hlen hh hv hf2 (got:=qp T D L (run T D L N 0 [])) (e:=0) N 0 (Nat.zero_le _) (by omega);refine Eq.trans this ?_;exact zuK _
theorem zwo:qQ N T true true (dv D)=some true:=by
 unfold qQ;have hr:=WC hN hT hD h1 (L:=[]) (by simp) (fun r h=>by cases h);have ha:=zcs hN hT hD (L:=[]) (by simp) (fun r h=>by cases h);rw[zkn]at hr ha;rw[show Jr N T [] (dv D)=some (T,0)from hr,zj,Bool.not_true,cond_false,cond_false,show zct N T [] (dv D)=some []from ha,zj,show([].map toByte++T)=T from rfl,Z6 (by omega) (by omega),za];obtain⟨N',rfl⟩:∃N',N=N'+1:=⟨N-1,by omega⟩
 show qK (N'+1) (jq (N'+1) N') (dv D) T 0 [] 0 T=_;unfold qK;exact zuK (N:=N'+1) T
theorem zgd{L:List Rule}(hL:L.length≤5)(hs:∀r∈L,Small r):∀(k i:Nat)(fits:Bool),i≤L.length→L.length-i<k→(J3 (L.take i) (D.length:Int)=true→fits=zeJ D (L.take i))→
  zX N k (.inr (T,J3 (L.take i) (D.length:Int),fits,(i:Int),dv D,lv L))=some true
 |0,_,_,_,h,_=>by omega
 |k+1,i,fits,hi,hk,hfit=>by
  show qG N (zX N k) T (J3 (L.take i) (D.length:Int)) fits (i:Int) (dv D) (lv L)=_;unfold qG;by_cases hl:i<L.length
  ·generalize hq:L[i]=r;have hat:atV (lv L) (i:Int)=yl r:=by rw[←hq];exact yT yl hl
   have hin:zg (i:Int) (lv L).length=true:=zt.2 ⟨by omega,by rw[jE];omega⟩;have htk:L.take (i+1)=L.take i++[r]:=by rw[←hq];exact (List.take_append_getElem hl).symm
   rw[decide_eq_true (show(i:Int)<((lv L).length:Int)by rw[jE];omega),cond_true,hat,hin,qL];show chk true (chk true (cond (J3 (L.take i) (D.length:Int)) (bnd (ZN N r (D.length:Int) true) fun v=>j5 N (zX N k) T v fits (i:Int) (dv D) (lv L) r) (j5 N (zX N k) T false fits (i:Int) (dv D) (lv L) r)))=_;rw[za,za,zjA,zj];have key:∀g:Bool,g=J3 (L.take (i+1)) (D.length:Int)→j5 N (zX N k) T g fits (i:Int) (dv D) (lv L) r=some true:=fun g hg=>by
    have hg2:=hg;rw[htk,Q6]at hg2;unfold j5;cases g with
    |false=>rw[cond_false,zB (by omega) (by omega),za,hg];exact zgd hL hs k (i+1) fits (by omega) (by omega) fun h=>by rw[←hg]at h;cases h
    |true=>
     have hgv:=(Bool.and_eq_true ..).mp hg2.symm;have hv:=zkf hgv.2;have hfp:=hfit hgv.1;have k7:∀m:Nat,m=nP D r→yX N (zX N k) T true fits (i:Int) (m:Int) (dv D) (lv L) r=some true:=fun m hm=>by
      unfold yX;have ih:=zgd hL hs k (i+1) (fits&&QC D r) (by omega) (by omega) fun _=>by rw[htk,zjM,hfp]
      rw[←hg]at ih;cases fits with
      |false=>rw[cond_false,zB (by omega) (by omega),za];exact ih
      |true=>
       have hbi:=qB hv.2.1 hv.2.2;have hbi2:zg r.By (dv D).length=true:=zt.2 ⟨hv.2.1,by rw[qL];exact hv.2.2⟩;rw[cond_true,hbi,hbi2,za,za,zB (by omega) (by omega),za,zqy hv.2];have e:decide (((byP D r).length:Int)=(m:Int))=(true&&QC D r):=by rw[Bool.true_and];unfold QC;rw[←hm];exact decide_eq_decide.2 ⟨fun h=>by omega,fun h=>by omega⟩
       rw[e];exact ih
     rw[cond_true];by_cases hh:r.How=1
     ·rw[decide_eq_true hh,Bool.not_true,cond_false];exact k7 1 (by unfold nP;rw[if_pos hh])
     ·have h0:=hv.1.h5 hh;have hwi:zg r.What (dv D).length=true:=zt.2 ⟨h0,by rw[qL];exact hv.1.h2⟩;rw[decide_eq_false hh,Bool.not_false,cond_true,qB h0 hv.1.h2,hwi,za,za,zlB h0 hv.1.h2];exact k7 _ (by unfold nP;rw[if_neg hh])
   cases hg:J3 (L.take i) (D.length:Int)with
   |true=>rw[cond_true];exact key _ (by rw[htk,Q6,hg,Bool.true_and])
   |false=>rw[cond_false];exact key _ (by rw[htk,Q6,hg,Bool.false_and])
  ·have:i=L.length:=by omega
   subst this;rw[List.take_length]at hfit⊢;rw[decide_eq_false (by rw[jE];omega),cond_false];exact ztT hN hT hD h1 hL hs hfit
theorem zpS{L:List Rule}(hL:L.length≤5)(hs:∀r∈L,Small r):y6 N T true true (dv D) (lv L)=some true:=by unfold y6;exact zgd hN hT hD h1 hL hs N 0 true (Nat.zero_le _) (by omega) (fun _=>rfl)
theorem zvy:qR N T true true (dv D)=some true:=by
 unfold qR;have:=zwo hN hT hD h1;obtain⟨N',rfl⟩:∃N',N=N'+1:=⟨N-1,by omega⟩
 show qH (N'+1) (zX (N'+1) N') T true true 0 (dv D)=_;unfold qH;rw[decide_eq_false (show¬(0:Int)<0 by decide),cond_false];exact this
end
end Go.Proofs.C06
end
section
set_option maxRecDepth 100000
namespace Go.Proofs.C06
open Go Go.RowKit Go.Vc Go.Am
theorem Small.withBy{r:Rule}(h:Small r){b:Int}(hb: -1000≤b∧b≤1000):Small (Rule.mk r.Count r.How r.What b r.Before r.After):=⟨h.c,h.w,hb,h.p,h.a,h.h⟩
abbrev G8:=((List UInt8×Int×Bool×Bool×Int×RulesFit×List AV)⊕(List UInt8×Int×Bool×Bool×Int×RulesFit×List AV×List AV))→Option Bool
theorem S3.getD{D:List (List UInt8)}(h:S3 D)(i:Nat):(D.getD i []).length≤3:=by
 rw[List.getD_eq_getElem?_getD];cases hg:D[i]? with
 |none=>simp
 |some d=>exact h d (List.mem_of_getElem? hg)
theorem S3.xyz{D:List (List UInt8)}(h:S3 D)(m:Nat):∃d,Vc.sub ([120,121,122].map toByte) 0 (m:Int)=d∧S3 (D++[d]):=by
 refine⟨_,rfl,fun d hd=>?_⟩;rcases List.mem_append.1 hd with q|q
 ·exact h d q
 ·rw[List.mem_singleton.1 q];show(Vc.sub ([120,121,122].map toByte) ((0:Nat):Int) (m:Int)).length≤3;rw[ze7,List.length_take];show min _ (List.drop 0 [toByte 120,toByte 121,toByte 122]).length≤3;rw[List.drop_zero];exact Nat.min_le_right _ _
section
variable {N : Nat} (hN : 1000 < N) {T : List UInt8} (hT : T.length ≤ 500) {n0 : Nat} (hn1 : 1 ≤ n0) (hn6 : n0 ≤ 6) {x : RulesFit} (h5 : x.LL.length ≤ 5) (hx : ∀ v ∈ x.LL, ∃ r, v = rV r ∧ InR20 r)
structure Built(n0 i:Nat)(D:List (List UInt8))(L:List Rule):Prop where
 len:L.length=i
 s3:S3 D
 lo:n0≤D.length
 hi:D.length≤n0+i
 sm:∀r∈L,Small r
include hn6 in
theorem zpQ{i:Nat}(hi5:i<5){D:List (List UInt8)}{L:List Rule}(B:Built n0 i D L){r:Rule}(hr:Small r){m:Nat}(hm:m≤3)(go8:G8){n:Int}:
  ∃D' L',jU N go8 T n true true (i:Int) (m:Int) x (dv D) (lv L) r=go8 (.inr (T,n,true,true,((i+1:Nat):Int),x,dv D',lv L'))∧Built n0 (i+1) D' L':=by
 have e2:∀q:Rule,lv L++([.agg [.int .i64 q.Count,.int .u8 q.How,.int .i64 q.What,.int .i64 q.By,.int .i64 q.Before,.int .i64 q.After]]:List AV)=lv (L++[q]):=fun q=>by unfold lv;rw[List.map_append];rfl
 have hl:=B.len;have hlo:=B.lo;have hhi:=B.hi;have grow:∀(D':List (List UInt8))(q:Rule),S3 D'→D.length≤D'.length→D'.length≤D.length+1→Small q→Built n0 (i+1) D' (L++[q]):=fun D' q h1 h2 h3 h4=>
  ⟨by rw[List.length_append,hl];rfl,h1,by omega,by omega,fun y hy=>by
   rcases List.mem_append.1 hy with z|z
   ·exact B.sm y z
   ·rw[List.mem_singleton.1 z];exact h4⟩
 have glen:∀q:Rule,(lv (L++[q])).length=i+1:=fun q=>by rw[jE,List.length_append,hl];rfl
 unfold jU;cases x.Fit with
 |true=>
  obtain⟨d,hd,hs⟩:=B.s3.xyz m;have e1:dv D++([.rob false d]:List AV)=dv (D++[d]):=by simp[dv]
  have hsub:jR 0 (m:Int) ([120,121,122].map toByte).length=true:=z6.2 ⟨by omega,by omega,by show(m:Int)≤3;omega⟩;refine⟨D++[d],L++[Rule.mk r.Count r.How r.What (D.length:Int) r.Before r.After],?_,grow _ _ hs (by rw[List.length_append];omega) (by rw[List.length_append];exact Nat.le_refl _) (hr.withBy ⟨by omega,by omega⟩)⟩;have e3:=e2 (Rule.mk r.Count r.How r.What (D.length:Int) r.Before r.After);dsimp only at e3;rw[cond_true,hsub,za,hd,e1,qL D,qL (D++[d]),Z6 (by omega) (by rw[List.length_append];simp only[List.length_cons,List.length_nil];omega),za,e3,Z6 (by omega) (by rw[glen];omega),za,zB (by omega) (by omega),za];rfl
 |false=>refine⟨D,L++[r],?_,grow _ _ B.s3 (Nat.le_refl _) (by omega) hr⟩;rw[cond_false,e2,Z6 (by omega) (by rw[glen];omega),za,zB (by omega) (by omega),za];rfl
include hn6 in
theorem ztR{D:List (List UInt8)}(B:Built n0 0 D []){r:Rule}(hr:Small r){m:Nat}(hm:m≤3)(go8:G8){n:Int}:
  ∃D' L',yW N go8 T n true true 0 (m:Int) x (dv D) r=go8 (.inr (T,n,true,true,((1:Nat):Int),x,dv D',lv L'))∧Built n0 1 D' L':=
 zpQ (N:=N) hn6 (i:=0) (by omega) B hr hm go8
include hN hT hn1 hn6 h5 hx
theorem zpJ:∀(k i:Nat)(D:List (List UInt8))(L:List Rule),Built n0 i D L→i≤x.LL.length→x.LL.length-i<k→
  zH N k (.inr (T,(n0:Int),true,true,(i:Int),x,dv D,lv L))=some true
 |0,_,_,_,_,_,h=>by omega
 |k+1,i,D,L,B,hi,hk=>by
  show qE N (zH N k) T (n0:Int) true true (i:Int) x (dv D) (lv L)=_;unfold qE;have hlo:=B.lo;by_cases hl:i<x.LL.length
  ·obtain⟨y,e,hy⟩:=hx x.LL[i] (List.getElem_mem hl);have hat:atV x.LL (i:Int)=rV y:=by rw[←e];have:=yT (fun v:AV=>v) hl;rwa [List.map_id']at this
   obtain⟨r,hr,hrs,hrw⟩:=Xp (N:=N) hy (n:=(n0:Int)) ⟨by omega,by omega⟩ true;rw[decide_eq_true (show(i:Int)<(x.LL.length:Int)by omega),cond_true,hat,zt.2 ⟨by omega,by omega⟩];show chk true (bnd (Yp N y (n0:Int) true) _)=_;rw[za,hr,zj];have fin:∀m:Nat,m≤3→jU N (zH N k) T (n0:Int) true true (i:Int) (m:Int) x (dv D) (lv L) r=some true:=fun m hm=>by obtain⟨D',L',e1,B'⟩:=zpQ (N:=N) (T:=T) (x:=x) hn6 (by omega) B hrs hm (zH N k) (n:=(n0:Int));rw[e1];exact zpJ k (i+1) D' L' B' (by omega) (by omega)
   have k10:∀t:Bool,(t=true→0≤r.What)→ya N (zH N k) T (n0:Int) true true (i:Int) 1 t x (dv D) (lv L) r=some true:=fun t ht=>by
    unfold ya;cases t with
    |false=>exact fin 1 (by omega)
    |true=>have h0:=ht rfl;have hwi:zg r.What (dv D).length=true:=zt.2 ⟨h0,by rw[qL];omega⟩;rw[cond_true,qB h0 (by omega),hwi,za,za,Zg h0 (by omega)];exact fin _ (B.s3.getD _)
   cases decide (r.How=1)with
   |true=>exact k10 false (fun h=>by cases h)
   |false=>exact k10 _ (fun h=>of_decide_eq_true h)
  ·rw[decide_eq_false (by omega),cond_false];exact zpS hN hT B.s3.short (by omega) (by rw[B.len];omega) B.sm
theorem zpK{D:List (List UInt8)}(hD:S3 D)(hl0:D.length=n0){k:Nat}(hk:x.LL.length<k):zH N k (.inl (T,(n0:Int),true,true,0,x,dv D))=some true:=by
 obtain⟨k,rfl⟩:∃k',k=k'+1:=⟨k-1,by omega⟩
 show qF N (zH N k) T (n0:Int) true true 0 x (dv D)=_;unfold qF;have B:Built n0 0 D []:=⟨rfl,hD,by omega,by omega,fun r h=>by cases h⟩
 by_cases hl:0<x.LL.length
 ·obtain⟨y,e,hy⟩:=hx x.LL[0] (List.getElem_mem hl);have hat:atV x.LL 0=rV y:=by rw[←e];have:=yT (fun v:AV=>v) hl;rw[List.map_id']at this;exact this
  obtain⟨r,hr,hrs,hrw⟩:=Xp (N:=N) hy (n:=(n0:Int)) ⟨by omega,by omega⟩ true;rw[decide_eq_true (show(0:Int)<(x.LL.length:Int)by omega),cond_true,hat,zt.2 ⟨by omega,by omega⟩];show chk true (bnd (Yp N y (n0:Int) true) _)=_;rw[za,hr,zj];have fin:∀m:Nat,m≤3→yW N (zH N k) T (n0:Int) true true 0 (m:Int) x (dv D) r=some true:=fun m hm=>by obtain⟨D',L',e1,B'⟩:=ztR (N:=N) (T:=T) (x:=x) hn6 B hrs hm (zH N k) (n:=(n0:Int));rw[e1];exact zpJ hN hT hn1 hn6 h5 hx k 1 D' L' B' (by omega) (by omega)
  have k10:∀t:Bool,(t=true→0≤r.What)→yJ N (zH N k) T (n0:Int) true true 0 1 t x (dv D) r=some true:=fun t ht=>by
   unfold yJ;cases t with
   |false=>exact fin 1 (by omega)
   |true=>have h0:=ht rfl;have hwi:zg r.What (dv D).length=true:=zt.2 ⟨h0,by rw[qL];omega⟩;rw[cond_true,qB h0 (by omega),hwi,za,za,Zg h0 (by omega)];exact fin _ (hD.getD _)
  cases decide (r.How=1)with
  |true=>exact k10 false (fun h=>by cases h)
  |false=>exact k10 _ (fun h=>of_decide_eq_true h)
 ·rw[decide_eq_false (by omega),cond_false];exact zvy hN hT hD.short (by omega)
end
theorem WQ(b:List UInt8)(l:List AV)(x:RulesFit)(hl:∀v∈l,∃b,v=.rob false b)(hx:∀v∈x.LL,∃r,v=rV r∧InR20 r):∃N,yh N b l x=some true:=by
 refine⟨2000,?_⟩;unfold yh;by_cases h1:30<b.length
 ·rw[decide_eq_true (by omega),cond_true]
 ·rw[decide_eq_false (by omega),cond_false];by_cases h2:5<x.LL.length
  ·rw[decide_eq_true (by omega),cond_true]
  ·obtain⟨T,e1,hT⟩:=VU (N:=2000) (n:=30) (by omega) (by omega) b;obtain⟨D,e2,hD,hD1,hD6⟩:=KW (N:=2000) (by omega) hl;rw[decide_eq_false (by omega),cond_false,show YP 2000 b 30=some T from e1,zj,e2,zj,qL];exact zpK (by omega) (by omega) hD1 hD6 (by omega) hx hD rfl (by omega)
end Go.Proofs.C06
end
