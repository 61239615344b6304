/-
  A part of the proof of the laws.
-/
import Derived.Test.YtdkkileemeopbaaGreatDoorPa
section
set_option maxRecDepth 100000
namespace Go.Proofs.C06
open Go Go.RowKit Go.Vc Go.Am
abbrev EdV:=Option (Nat×Nat×Bool)
def fin(sg dg sc:Nat)(t:uBp):EdV:=if t=[43]\/t=[45]then(if sg+1<2/\0<dg then some (dg,sc,true)else none)else if t=[]/\sg<2/\0<dg then some (dg,sc,decide (0<sg))else none
def fr(sym:uBp)(m:Nat)(t:uBp):Nat:=if 0<cnt [57] t\/0<m then cnt [57] t else if sym≠[]then cnt sym t else if t.getD 0 0=90\/t.getD 0 0=42 then cnt [t.getD 0 0] t else 0
def zn1(sg dg:Nat)(sym:uBp)(m:Nat)(t:uBp):EdV:=if t.getD 0 0=46\/t.getD 0 0=86 then if t.getD 0 0=46/\fr sym m (t.drop 1)=0 then none else fin sg (dg+fr sym m (t.drop 1)) (fr sym m (t.drop 1)) (t.drop (1+fr sym m (t.drop 1)))else fin sg dg 0 t
def nin(sg dg:Nat)(sym:uBp)(t:uBp):EdV:=zn1 sg (dg+cnt [57] t) sym (cnt [57] t) (t.drop (cnt [57] t))
def who(sg:Nat)(t:uBp):EdV:=if 0<cnt [90] t then nin sg (cnt [90] t) [90] (t.drop (cnt [90] t))else if 0<cnt [42] t then nin sg (cnt [42] t) [42] (t.drop (cnt [42] t))else if 1<cnt [36] t then nin sg (cnt [36] t-1) [36] (t.drop (cnt [36] t))else if 1<cnt [43] t then nin (sg+1) (cnt [43] t-1) [43] (t.drop (cnt [43] t))else if 1<cnt [45] t then nin (sg+1) (cnt [45] t-1) [45] (t.drop (cnt [45] t))else nin sg 0 [] t
def mon(sg:Nat)(t:uBp):EdV:=if cnt [36] t=1 then who sg (t.drop 1)else who sg t
def sgn(sg:Nat)(t:uBp):EdV:=if cnt [43] t=1 then mon (sg+1) (t.drop 1)else if cnt [45] t=1 then mon (sg+1) (t.drop 1)else mon sg t
def tail2(p:uBp):uBp:=p.drop (p.length-2)
def zrc(p:uBp):EdV:=if tail2 p=[67,82]\/tail2 p=[68,66]then sgn 1 (noIns (p.take (p.length-2)))else sgn 0 (noIns p)
def edS(p:uBp):EdV:=if p.getD 0 0=44\/p.getD (p.length-1) 0=44 then none else zrc p
def szN(p:uBp):Nat:=p.length-p.count 86
def qf(p:uBp)(dg sc:Nat)(sg:Bool):Shape:=Shape.mk 5 0 p dg sc sg false false false false (szN p)
def Res(p:uBp)(o:Option (Shape×Bool))(v:EdV):Prop:=∃sh,o=some (sh,v.isSome)/\∀d sc sg,v=some (d,sc,sg)->sh=qf p d sc sg
theorem Res.no{p:uBp}{sh:Shape}:Res p (some (sh,false)) none:=⟨sh,rfl,fun _ _ _ h=>by cases h⟩
theorem Res.yes{p:uBp}{d sc:Nat}{sg:Bool}{sh:Shape}(h:sh=qf p d sc sg):Res p (some (sh,true)) (some (d,sc,sg)):=⟨sh,rfl,fun _ _ _ e=>by cases e;exact h⟩
section
variable {N : Nat} (hN : 1000 < N) {p q : uBp} (hq : q.length <= 400) (b0 : Shape)
include hN hq
omit hN hq in
theorem zdU(set:uBp)(k:Nat)(h:k<=q.length):k+cnt set (q.drop k)<=q.length:=by have:=YY set (q.drop k);rw[mJ]at this;omega
end
end Go.Proofs.C06
end
section
set_option maxRecDepth 100000
namespace Go.Proofs.C06
open Go Go.RowKit Go.Vc Go.Am
section
variable {N : Nat} (hN : 1000 < N) {p q : uBp} (hq : q.length <= 400) (b0 : Shape)
include hN hq
end
theorem zcp(s:uBp):(noIns s).length<=s.length:=List.length_filter_le ..
end Go.Proofs.C06
end
section
set_option maxRecDepth 100000
namespace Go.Proofs.C06
open Go Go.RowKit Go.Vc Go.Am
abbrev edE(p q:uBp)(i sg dg sc:Nat):editor:=editor.mk q i sg 5 0 p dg sc false false false false false (szN p)
section
variable {N : Nat} (hN : 1000 < N) {p q : uBp} (hq : q.length <= 400)
include hN hq
theorem WW(set:uBp)(k:Nat)(h2:k<=q.length):jd N q (k:Int) set=some ((cnt set (q.drop k):Nat):Int):=
 YB (by omega) (by omega) h2
theorem VI(set:uBp)(i sg dg sc:Nat)(hi:i<=q.length):
  zdO N set (edE p q i sg dg sc)=some (((cnt set (q.drop i):Nat):Int),edE p q (i+cnt set (q.drop i)) sg dg sc):=by
 have hle:=zdU (q:=q) set i hi;unfold zdO of_;dsimp only;rw[zc,WW hN hq set i hi,zc,show((i:Int)+((cnt set (q.drop i):Nat):Int))=((i+cnt set (q.drop i):Nat):Int)by omega,zh (by omega) (by omega),za]
omit hN in
theorem QM(c:UInt8)(f:Nat):∀(n k:Nat),f+k<=q.length->q.length-(f+k)<n->
  yD N n q (f:Int) (k:Int) (c.toNat:Int)=some (((k+cnt [c] (q.drop (f+k)):Nat):Int),(c.toNat:Int))
 |0,k,_,h=>by omega
 |n+1,k,hk,h=>by
  show Zp N (yD N n) q f k c.toNat=_;unfold Zp;have e:((f:Int)+(k:Int))=((f+k:Nat):Int):=by omega
  rw[e,zh (by omega) (by omega),za,zb];by_cases hlt:f+k<q.length
  ·rw[if_pos (by omega),za,jm hlt,za,zJ,zM hlt,qd];unfold ziS;rw[zc,zb];by_cases hc:q.getD (f+k) 0=c
   ·rw[if_pos (YF.2 hc),if_pos (by rw[hc];simp),show((k:Int)+1)=((k+1:Nat):Int)by omega,zh (by omega) (by omega),za,QM c f n (k+1) (by omega) (by omega)];congr 3;rw[show f+(k+1)=f+k+1 by omega];omega
   ·rw[if_neg (fun e=>hc (YF.1 e)),if_neg (by simp;exact hc)];rfl
  ·rw[if_neg (by omega),nW (by omega)];rfl
theorem zdW(c:UInt8)(f:Nat)(hf:f<=q.length):YA N q (f:Int) (c.toNat:Int)=some (((cnt [c] (q.drop f):Nat):Int),(c.toNat:Int)):=by unfold YA;have:=QM (N:=N) (q:=q) hq c f N 0 (by omega) (by omega);simpa using this
theorem Kl(set:uBp)(hset:set.length<=10)(i sg dg sc n k:Nat)(hi:i<=q.length)(hk:k<set.length):
  qx N (n+1) (set.length:Int) (k:Int) (edE p q i sg dg sc) set=
   if cnt [set.getD k 0] (q.drop i)=1 then some (true,edE p q (i+1) sg dg sc)else qx N n (set.length:Int) ((k+1:Nat):Int) (edE p q i sg dg sc) set:=by
 show ZD N (qx N n) set.length k (edE p q i sg dg sc) set=_;unfold ZD;dsimp only;rw[zb,if_pos (by omega),jm hk,za,za,zJ,zdW hN hq _ _ hi,zc,zb];by_cases h:cnt [set.getD k 0] (q.drop i)=1
 ·rw[if_pos (by omega),if_pos h,show((i:Int)+1)=((i+1:Nat):Int)by omega,zh (by omega) (by omega),za]
 ·rw[if_neg (by omega),if_neg h,show((k:Int)+1)=((k+1:Nat):Int)by omega,zh (by omega) (by omega),za]
omit hN hq in
theorem zeV(set:uBp)(i sg dg sc n:Nat):qx N (n+1) (set.length:Int) (set.length:Int) (edE p q i sg dg sc) set=some (false,edE p q i sg dg sc):=by show ZD N (qx N n) set.length set.length (edE p q i sg dg sc) set=_;unfold ZD;rw[zb,if_neg (by omega)]
theorem znc(c:UInt8)(i sg dg sc:Nat)(hi:i<=q.length):Km N [c] (edE p q i sg dg sc)=some (if cnt [c] (q.drop i)=1 then(true,edE p q (i+1) sg dg sc)else(false,edE p q i sg dg sc)):=by
 obtain⟨n,rfl⟩:∃n,N=n+2:=⟨N-2,by omega⟩
 have s0:=Kl (p:=p) hN hq [c] (by simp) i sg dg sc (n+1) 0 hi (by simp);have s1:=zeV (N:=n+2) (p:=p) (q:=q) [c] i sg dg sc n;unfold Km;rw[show((0:Nat):Int)=0 from rfl]at s0;rw[s0];show(if cnt [c] (q.drop i)=1 then _ else _)=_;split
 ·rfl
 ·exact s1
theorem znb(c d:UInt8)(i sg dg sc:Nat)(hi:i<=q.length):Km N [c,d] (edE p q i sg dg sc)=some (if cnt [c] (q.drop i)=1 then(true,edE p q (i+1) sg dg sc)else if cnt [d] (q.drop i)=1 then(true,edE p q (i+1) sg dg sc)else(false,edE p q i sg dg sc)):=by
 obtain⟨n,rfl⟩:∃n,N=n+3:=⟨N-3,by omega⟩
 have s0:=Kl (p:=p) hN hq [c,d] (by simp) i sg dg sc (n+2) 0 hi (by simp);have s1:=Kl (p:=p) hN hq [c,d] (by simp) i sg dg sc (n+1) 1 hi (by simp);have s2:=zeV (N:=n+3) (p:=p) (q:=q) [c,d] i sg dg sc n;unfold Km;rw[show((0:Nat):Int)=0 from rfl]at s0;rw[s0];show(if cnt [c] (q.drop i)=1 then _ else _)=_;split
 ·rfl
 ·refine s1.trans ?_;show(if cnt [d] (q.drop i)=1 then _ else _)=_;split
  ·rfl
  ·exact s2
theorem zkx(sym:uBp)(i sg dg:Nat)(hi:i<=q.length)(hd:dg<=400):
  zu N sym (edE p q i sg dg 0)=some (sym,decide (0<cnt [57] (q.drop i)),edE p q (i+cnt [57] (q.drop i)) sg (dg+cnt [57] (q.drop i)) 0):=by
 have hle:=zdU (q:=q) [57] i hi;unfold zu;rw[VI hN hq [57] i sg dg 0 hi,zc];dsimp only;rw[show((dg:Int)+((cnt [57] (q.drop i):Nat):Int))=((dg+cnt [57] (q.drop i):Nat):Int)by omega,zh (by omega) (by omega),za];congr 2;congr 1;rw[uAi];simp
def whoV(sg:Nat)(t:uBp):uBp×Nat×Nat×Nat:=if 0<cnt [90] t then([90],cnt [90] t,sg,cnt [90] t)else if 0<cnt [42] t then([42],cnt [42] t,sg,cnt [42] t)else if 1<cnt [36] t then([36],cnt [36] t,sg,cnt [36] t-1)else if 1<cnt [43] t then([43],cnt [43] t,sg+1,cnt [43] t-1)else if 1<cnt [45] t then([45],cnt [45] t,sg+1,cnt [45] t-1)else([],0,sg,0)
omit hN hq in
theorem zky(sg:Nat)(t:uBp):who sg t=nin (whoV sg t).2.2.1 (whoV sg t).2.2.2 (whoV sg t).1 (t.drop (whoV sg t).2.1):=by
 unfold who whoV
 repeat' split
 all_goals rfl
omit hN hq in
theorem zoS(sg:Nat)(t:uBp):(whoV sg t).2.1<=t.length/\(whoV sg t).2.2.2<=(whoV sg t).2.1/\(whoV sg t).2.2.1<=sg+1/\(whoV sg t).1.length<=1:=by
 have:=fun c=>YY [c] t
 unfold whoV
 repeat' split
 all_goals (refine⟨?_,?_,?_,?_⟩<;>first|exact this _|simp|omega)
theorem zc3(sym:uBp)(hsym:sym≠[])(i sg dg:Nat)(hi:i<=q.length):
  Zw N sym (edE p q i sg dg 0)=zu N sym (edE p q i sg dg 0):=by
 have c36:=WW hN hq [36] i hi;have c43:=WW hN hq [43] i hi;have c45:=WW hN hq [45] i hi;unfold Zw;have hof:∀s,of_ N s=some s:=fun _=>rfl
 have h36:([36].map toByte)=[36]:=rfl;have h43:([43].map toByte)=[43]:=rfl;have h45:([45].map toByte)=[45]:=rfl;simp only[hof,zc,h36,h43,h45,reduceCtorEq,decide_false,cond_false,decide_eq_false hsym,c36,c43,c45]
theorem zit(i sg:Nat)(hi:i<=q.length)(hs:sg<=5)(h90:¬0<cnt [90] (q.drop i))(h42:¬0<cnt [42] (q.drop i)):
  Zw N [] (edE p q i sg 0 0)=zu N (whoV sg (q.drop i)).1 (edE p q (i+(whoV sg (q.drop i)).2.1) (whoV sg (q.drop i)).2.2.1 (whoV sg (q.drop i)).2.2.2 0):=by
 have c36:=WW hN hq [36] i hi;have c43:=WW hN hq [43] i hi;have c45:=WW hN hq [45] i hi;have l36:=zdU (q:=q) [36] i hi;have l43:=zdU (q:=q) [43] i hi;have l45:=zdU (q:=q) [45] i hi;unfold Zw whoV;rw[if_neg h90,if_neg h42];have hof:∀s,of_ N s=some s:=fun _=>rfl
 have h36:([36].map toByte)=[36]:=rfl;have h43:([43].map toByte)=[43]:=rfl;have h45:([45].map toByte)=[45]:=rfl;simp only[hof,zc,h36,h43,h45,decide_true,cond_true,reduceCtorEq,decide_false,cond_false,c36,c43,c45];rw[zb];by_cases h1:1<cnt [36] (q.drop i)
 ·have e:((i:Int)+((cnt [36] (q.drop i):Nat):Int))=((i+cnt [36] (q.drop i):Nat):Int):=by omega
  have e2:(((cnt [36] (q.drop i):Nat):Int)-1)=((cnt [36] (q.drop i)-1:Nat):Int):=by omega
  rw[if_pos (by omega),if_pos h1,e,e2,zh (by omega) (by omega),za,zh (by omega) (by omega),za,WW hN hq [43] _ l36,zc,WW hN hq [45] _ l36,zc]
 ·rw[if_neg (by omega),if_neg h1,zb];by_cases h2:1<cnt [43] (q.drop i)
  ·have e:((i:Int)+((cnt [43] (q.drop i):Nat):Int))=((i+cnt [43] (q.drop i):Nat):Int):=by omega
   have e2:(((cnt [43] (q.drop i):Nat):Int)-1)=((cnt [43] (q.drop i)-1:Nat):Int):=by omega
   have e3:((sg:Int)+1)=((sg+1:Nat):Int):=by omega
   rw[if_pos (by omega),if_pos h2,e,e2,e3,zh (by omega) (by omega),za,zh (by omega) (by omega),za,zh (by omega) (by omega),za,WW hN hq [45] _ l43,zc]
  ·rw[if_neg (by omega),if_neg h2,zb];by_cases h3:1<cnt [45] (q.drop i)
   ·have e:((i:Int)+((cnt [45] (q.drop i):Nat):Int))=((i+cnt [45] (q.drop i):Nat):Int):=by omega
    have e2:(((cnt [45] (q.drop i):Nat):Int)-1)=((cnt [45] (q.drop i)-1:Nat):Int):=by omega
    have e3:((sg:Int)+1)=((sg+1:Nat):Int):=by omega
    rw[if_pos (by omega),if_pos h3,e,e2,e3,zh (by omega) (by omega),za,zh (by omega) (by omega),za,zh (by omega) (by omega),za]
   ·rw[if_neg (by omega),if_neg h3];rfl
theorem zp4(i sg:Nat)(hi:i<=q.length)(hs:sg<=5):
  whole N (edE p q i sg 0 0)=zu N (whoV sg (q.drop i)).1 (edE p q (i+(whoV sg (q.drop i)).2.1) (whoV sg (q.drop i)).2.2.1 (whoV sg (q.drop i)).2.2.2 0):=by
 have l90:=zdU (q:=q) [90] i hi;have l42:=zdU (q:=q) [42] i hi;unfold whole;rw[VI hN hq [90] i sg 0 0 hi,zc,zb];by_cases h1:0<cnt [90] (q.drop i)
 ·have:whoV sg (q.drop i)=([90],cnt [90] (q.drop i),sg,cnt [90] (q.drop i)):=by unfold whoV;rw[if_pos h1]
  rw[if_pos (by omega),this];exact zc3 hN hq [90] (by simp) _ sg _ l90
 ·have h0:cnt [90] (q.drop i)=0:=by omega
  rw[if_neg (by omega),h0];show(bnd (zdO N [42] (edE p q i sg 0 0)) _)=_;rw[VI hN hq [42] i sg 0 0 hi,zc,zb];by_cases h2:0<cnt [42] (q.drop i)
  ·have:whoV sg (q.drop i)=([42],cnt [42] (q.drop i),sg,cnt [42] (q.drop i)):=by unfold whoV;rw[if_neg h1,if_pos h2]
   rw[if_pos (by omega),this];exact zc3 hN hq [42] (by simp) _ sg _ l42
  ·have h0:cnt [42] (q.drop i)=0:=by omega
   rw[if_neg (by omega),h0];exact zit hN hq i sg hi hs h1 h2
end
end Go.Proofs.C06
end
section
set_option maxRecDepth 100000
namespace Go.Proofs.C06
open Go Go.RowKit Go.Vc Go.Am
section
variable {N : Nat} (hN : 1000 < N) {p q : uBp} (hq : q.length <= 400)
include hN hq
omit hN hq in
theorem zfQ(per:Bool)(f i sg dg:Nat)(hf:f<=400)(hd:dg<=1000):j7 N per (f:Int) (edE p q i sg dg 0)=some (decide (0<f)||!per,edE p q i sg (dg+f) f):=by
 unfold j7;dsimp only;rw[show((dg:Int)+(f:Int))=((dg+f:Nat):Int)by omega,zh (by omega) (by omega),za,zb];by_cases h:0<f
 ·rw[if_pos (by omega),decide_eq_true h];rfl
 ·rw[if_neg (by omega),decide_eq_false h];rfl
theorem zjC(sym:uBp)(m i sg dg:Nat)(hi:i<=q.length)(hd:dg<=400):
  ∃ok i' dg' sc',fraction N sym (decide (0<m)) (edE p q i sg dg 0)=some (ok,edE p q i' sg dg' sc')/\i'<=q.length/\zn1 sg dg sym m (q.drop i)=if ok=true then fin sg dg' sc' (q.drop i')else none:=by
 have hg:(q.drop i).getD 0 0=q.getD i 0:=by rw[mE,nE,mE];rfl
 unfold fraction zn1;dsimp only;rw[hg,zb];by_cases h0:q.length<=i
 ·have:q.getD i 0=0:=by rw[mE,uAo h0];rfl
  rw[if_pos (by omega),this];exact⟨true,i,dg,0,rfl,hi,rfl⟩
 ·have hlt:i<q.length:=by omega
  have k0:(q.getD i 0=46\/q.getD i 0=86)->∃ok i' dg' sc',ZN N sym (decide (0<m)) (edE p q i sg dg 0)=some (ok,edE p q i' sg dg' sc')/\i'<=q.length/\
    (if q.getD i 0=46/\fr sym m ((q.drop i).drop 1)=0 then none else fin sg (dg+fr sym m ((q.drop i).drop 1)) (fr sym m ((q.drop i).drop 1)) ((q.drop i).drop (1+fr sym m ((q.drop i).drop 1))))=if ok=true then fin sg dg' sc' (q.drop i')else none:=fun hor=>by
   have l9:=zdU (q:=q) [57] (i+1) (by omega);have hper:decide (((q.getD i 0).toNat:Int)=46)=decide (q.getD i 0=46):=by rw[uAi,decide_eq_true_eq,decide_eq_true_eq];exact YF (b:=46)
   have done:∀f,i+1+f<=q.length->fr sym m (q.drop (i+1))=f->∀x,x=j7 N (decide (q.getD i 0=46)) (f:Int) (edE p q (i+1+f) sg dg 0)->
     ∃ok i' dg' sc',x=some (ok,edE p q i' sg dg' sc')/\i'<=q.length/\
    (if q.getD i 0=46/\fr sym m ((q.drop i).drop 1)=0 then none else fin sg (dg+fr sym m ((q.drop i).drop 1)) (fr sym m ((q.drop i).drop 1)) ((q.drop i).drop (1+fr sym m ((q.drop i).drop 1))))=if ok=true then fin sg dg' sc' (q.drop i')else none:=fun f hf1 hf2 x hx=>by
    refine⟨_,_,_,_,hx.trans (zfQ _ f _ sg dg (by omega) (by omega)),hf1,?_⟩;rw[nA,hf2,nA,<-Nat.add_assoc];by_cases h1:q.getD i 0=46/\f=0
    ·rw[if_pos h1,if_neg];rw[decide_eq_true h1.1,h1.2];simp
    ·rw[if_neg h1,if_pos];rw[nP,decide_eq_true_eq,uBm,decide_eq_false_iff_not];by_cases h2:q.getD i 0=46
     ·left;have:f≠0:=fun h=>h1 ⟨h2,h⟩
      omega
     ·right;exact h2
   have hg1:(q.drop (i+1)).getD 0 0=q.getD (i+1) 0:=by rw[mE,nE,mE]
   unfold ZN;dsimp only;rw[jm hlt,za,show((i:Int)+1)=((i+1:Nat):Int)by omega,zh (by omega) (by omega),za,zJ,hper];have hrun:=VI (p:=p) hN hq [57] (i+1) sg dg 0 (by omega);have hrun':zdO N [57] (editor.mk q ((i+1:Nat):Int) (sg:Int) 5 0 p (dg:Int) ((0:Nat):Int) false false false false false ((szN p:Nat):Int))=_:=hrun;rw[hrun',zc,zb];unfold Yw;by_cases h2:0<cnt [57] (q.drop (i+1))
   ·rw[if_pos (by omega),cond_true];exact done _ l9 (by unfold fr;rw[if_pos (.inl h2)]) _ rfl
   ·have h20:cnt [57] (q.drop (i+1))=0:=by omega
    rw[if_neg (by omega),zb];by_cases h3:0<m
    ·rw[if_pos h3];exact done _ l9 (by unfold fr;rw[if_pos (.inr h3)]) _ rfl
    ·rw[if_neg h3,zg,h20];by_cases h4:sym=[]
     ·rw[if_pos h4,zb];unfold Yv;by_cases h5:i+1<q.length
      ·dsimp only;rw[if_pos (by omega),show of_ N [90,42]=some [90,42]from rfl,zc,uAf,jm h5,za,zJ,zbg,zc];cases h6:([90,42]:uBp).contains (q.getD (i+1) 0)with
       |false=>rw[cond_false];refine done 0 (by omega) ?_ _ rfl;unfold fr;rw[if_neg (by omega),if_neg (fun h=>h h4),hg1,if_neg];rintro(h|h)<;>rw[h]at h6<;>cases h6
       |true=>
        have h7:q.getD (i+1) 0=90\/q.getD (i+1) 0=42:=by simpa using h6
        have hsub:Vc.sub q ((i+1:Nat):Int) ((i+1+1:Nat):Int)=[q.getD (i+1) 0]:=by rw[zo2,List.drop_take,show i+1+1-(i+1)=1 by omega,zM h5];rfl
        have hr2:zdO N [q.getD (i+1) 0] (editor.mk q ((i+1:Nat):Int) (sg:Int) 5 0 p (dg:Int) ((0:Nat):Int) false false false false false ((szN p:Nat):Int))=_:=VI (p:=p) hN hq [q.getD (i+1) 0] (i+1) sg dg 0 (by omega);rw[cond_true,show(((i+1:Nat):Int)+1)=((i+1+1:Nat):Int)by omega,zh (by omega) (by omega),za,zw.2 ⟨by omega,by omega,by omega⟩,za,hsub,hr2,zc];refine done _ (zdU _ _ (by omega)) ?_ _ rfl;unfold fr;rw[if_neg (by omega),if_neg (fun h=>h h4),hg1,if_pos h7]
      ·dsimp only;rw[if_neg (by omega),cond_false];refine done 0 (by omega) ?_ _ rfl;unfold fr;rw[if_neg (by omega),if_neg (fun h=>h h4),if_neg];rw[hg1,mE,uAo (by omega)];rintro(h|h)<;>cases h
     ·rw[if_neg h4,uAf];have hr2:=VI (p:=p) hN hq sym (i+1) sg dg 0 (by omega);rw[hr2,zc];refine done _ (zdU _ _ (by omega)) ?_ _ rfl;unfold fr;rw[if_neg (by omega),if_pos h4]
  rw[if_neg (by omega),jm hlt,za,zJ,zg];by_cases h1:q.getD i 0=46
  ·rw[if_pos (by rw[h1];rfl),if_pos (.inl h1)];exact k0 (.inl h1)
  ·rw[if_neg (show¬(((q.getD i 0).toNat:Int)=46)from fun e=>h1 (YF.1 e)),za,zg];by_cases h2:q.getD i 0=86
   ·rw[if_pos (by rw[h2];rfl),if_pos (.inr h2)];exact k0 (.inr h2)
   ·rw[if_neg (show¬(((q.getD i 0).toNat:Int)=86)from fun e=>h2 (YF.1 e)),if_neg (by rintro(h|h);exact h1 h;exact h2 h)];exact⟨true,i,dg,0,rfl,hi,rfl⟩
end
def zgY(p:uBp)(v:EdV):EdV:=if p.getD 0 0=44\/p.getD (p.length-1) 0=44 then none else v
theorem zjO{N:Nat}{p q:uBp}(hp0:p≠[])(hp:p.length<=400)(ok:Bool)(b0:Shape)(i sg dg sc:Nat):
  Res p (QA N p ok b0 (edE p q i sg dg sc)) (zgY p (if ok=true/\i=q.length/\sg<2/\0<dg then some (dg,sc,decide (0<sg))else none)):=by
 have hl:0<p.length:=List.length_pos_iff.2 hp0;have hx:=jm hl;have hb:=zJ p 0;rw[show((0:Nat):Int)=0 from rfl]at hx hb;have no:∀{v:EdV}{sh:Shape},v=none->Res p (some (sh,false)) (zgY p v):=fun h=>by
  subst h;have:zgY p none=none:=by unfold zgY;split<;>rfl
  rw[this];exact Res.no
 unfold QA;dsimp only;cases ok with
 |false=>rw[cond_false];exact no (by rw[if_neg (by simp)])
 |true=>
  rw[cond_true,zb];by_cases h1:i=q.length
  ·rw[if_pos (by omega),zb];by_cases h2:sg<2
   ·rw[if_pos (by omega),zb];by_cases h3:0<dg
    ·rw[if_pos (by omega),hx,za,zg,hb,if_pos (show true=true/\i=q.length/\sg<2/\0<dg from⟨rfl,h1,h2,h3⟩)];unfold zgY;by_cases h4:p.getD 0 0=44
     ·rw[if_pos (by rw[h4];rfl),if_pos (.inl h4)];exact Res.no
     ·rw[if_neg (show¬(((p.getD 0 0).toNat:Int)=44)from fun e=>h4 (YF.1 e)),show((p.length:Int)-1)=((p.length-1:Nat):Int)by omega,zh (by omega) (by omega),za,jm (by omega),za,zJ];by_cases h5:p.getD (p.length-1) 0=44
      ·rw[decide_eq_true (show(((p.getD (p.length-1) 0).toNat:Int)=44)by rw[h5];rfl),if_pos (.inr h5)];exact Res.no
      ·rw[decide_eq_false (show¬(((p.getD (p.length-1) 0).toNat:Int)=44)from fun e=>h5 (YF.1 e)),if_neg (by rintro(h|h);exact h4 h;exact h5 h)];refine Res.yes ?_;unfold qf;congr 1;rw[uAi];simp
    ·rw[if_neg (by omega)];exact no (by rw[if_neg (fun h=>h3 h.2.2.2)])
   ·rw[if_neg (by omega)];exact no (by rw[if_neg (fun h=>h2 h.2.2.1)])
  ·rw[if_neg (by omega)];exact no (by rw[if_neg (fun h=>h1 h.2.1)])
theorem Xv{N:Nat}(hN:1000<N){p q:uBp}(hp0:p≠[])(hp:p.length<=400)(hq:q.length<=400)(b0:Shape)(i sg:Nat)(hi:i<=q.length)(hs:sg<=4):
  Res p (QB N p b0 (edE p q i sg 0 0)) (zgY p (mon sg (q.drop i))):=by
 have rest:∀j,j<=q.length->Res p (bnd (whole N (edE p q j sg 0 0)) fun rr4=>bnd (fraction N rr4.1 rr4.2.1 rr4.2.2) fun rr5=>
   chk (zm rr5.2.at_ ((rr5.2.s).length:Int) ((rr5.2.s).length))<|
   cond (decide ((zX rr5.2.s rr5.2.at_)=([43]:uBp))) (
    qB N p rr5.1 true b0 rr5.2) (
    qB N p rr5.1 (decide ((zX rr5.2.s rr5.2.at_)=([45]:uBp))) b0 rr5.2)) (zgY p (who sg (q.drop j))):=fun j hj=>by
  obtain⟨w1,w2,w3,w4⟩:=zoS sg (q.drop j);rw[mJ]at w1;rw[zp4 hN hq j sg hj (by omega),zky,nA];generalize whoV sg (q.drop j)=v at*
  rw[zkx hN hq _ _ _ _ (by omega) (by omega),zc];unfold nin;have l9:=zdU (q:=q) [57] (j+v.2.1) (by omega);obtain⟨ok,i',dg',sc',f1,f2,f3⟩:=zjC (p:=p) hN hq v.1 (cnt [57] (q.drop (j+v.2.1))) (j+v.2.1+cnt [57] (q.drop (j+v.2.1))) v.2.2.1 (v.2.2.2+cnt [57] (q.drop (j+v.2.1))) l9 (by omega);rw[f1,zc,nA,f3];dsimp only;have hl:(q.drop i').length=q.length-i':=mJ ..;have hsg:v.2.2.1<=5:=by omega
  generalize v.2.2.1=s at*
  have K:=fun i sg=>zjO (N:=N) (p:=p) (q:=q) hp0 hp ok b0 i sg dg' sc'
  have one:∀c:UInt8,(c=43\/c=45)->q.drop i'=[c]->Res p (qB N p ok true b0 (edE p q i' s dg' sc')) (zgY p (if ok=true then fin s dg' sc' (q.drop i')else none)):=fun c hc he=>by
   unfold qB;dsimp only;rw[cond_true,show((s:Int)+1)=((s+1:Nat):Int)by omega,show((i':Int)+1)=((i'+1:Nat):Int)by omega,zh (by omega) (by omega),za,zh (by omega) (by omega),za];have:=K (i'+1) (s+1);have hor:[c]=[43]\/[c]=[45]:=by rcases hc with rfl|rfl<;>simp
   rw[he]at hl⊢;unfold fin;rw[if_pos hor];have e:i'+1=q.length:=by simp at hl;omega
   rw[show(if ok=true/\i'+1=q.length/\s+1<2/\0<dg' then some (dg',sc',decide (0<s+1))else none)=(if ok=true then if s+1<2/\0<dg' then some (dg',sc',true)else none else none)by
    by_cases a:ok=true<;>by_cases b:s+1<2/\0<dg'<;>simp[a,b,e];all_goals first|(intro h1 h2;exact absurd ⟨h1,h2⟩ b)|skip]at this
   exact this
  rw[zw.2 ⟨by omega,by omega,by omega⟩,za,zcK,zb];by_cases g1:q.drop i'=[43]
  ·rw[if_pos g1];exact one 43 (.inl rfl) g1
  ·rw[if_neg g1];by_cases g2:q.drop i'=[45]
   ·rw[decide_eq_true g2];exact one 45 (.inr rfl) g2
   ·rw[decide_eq_false g2];unfold qB;rw[cond_false];have:=K i' s;unfold fin;rw[if_neg (show¬(q.drop i'=[43]\/q.drop i'=[45])by rintro(h|h);exact g1 h;exact g2 h)];have e:q.drop i'=[]↔i'=q.length:=by rw[List.drop_eq_nil_iff];omega
    rw[show(if ok=true/\i'=q.length/\s<2/\0<dg' then some (dg',sc',decide (0<s))else none)=(if ok=true then if q.drop i'=[]/\s<2/\0<dg' then some (dg',sc',decide (0<s))else none else none)by
     by_cases a:ok=true<;>simp[a,e]]at this
    exact this
 unfold QB mon;rw[znc hN hq 36 i sg 0 0 hi,zc];by_cases h:cnt [36] (q.drop i)=1
 ·rw[if_pos h,if_pos h,nA];have:=zdU (q:=q) [36] i hi;exact rest (i+1) (by omega)
 ·rw[if_neg h,if_neg h];exact rest i hi
theorem zf0{N:Nat}(hN:1000<N){p body:uBp}(hp0:p≠[])(hp:p.length<=400)(hb:body.length<=400)(ha:∀c∈body,c.toNat<128)(b0:Shape)(sg:Nat)(hs:sg<=3)(go)(b2:List uBp)(t:Int):
  Res p (j8 N go p body t t b0 (edE p [] 0 sg 0 0) b2) (zgY p (sgn sg (noIns body))):=by
 have hq:=zcp body;generalize hqq:noIns body=q at*
 have hq':q.length<=400:=by omega
 unfold j8 sgn;dsimp only;rw[zb,if_neg (by omega),zgT hN hb ha,zc,hqq];have s2:=znb (p:=p) hN hq' 43 45 0 sg 0 0 (by omega);have s2':Km N [43,45] (editor.mk q ((0:Nat):Int) (sg:Int) 5 0 p ((0:Nat):Int) ((0:Nat):Int) false false false false false ((szN p:Nat):Int))=_:=s2;rw[s2',zc,nS];have c43:=YY [43] q;have c45:=YY [45] q;have e1:((sg:Int)+1)=((sg+1:Nat):Int):=by omega
 by_cases h1:cnt [43] q=1
 ·rw[if_pos h1,if_pos h1];dsimp only;rw[cond_true,e1,zh (by omega) (by omega),za];exact Xv hN hp0 hp hq' b0 1 (sg+1) (by omega) (by omega)
 ·rw[if_neg h1,if_neg h1];by_cases h2:cnt [45] q=1
  ·rw[if_pos h2,if_pos h2];dsimp only;rw[cond_true,e1,zh (by omega) (by omega),za];exact Xv hN hp0 hp hq' b0 1 (sg+1) (by omega) (by omega)
  ·rw[if_neg h2,if_neg h2];dsimp only;rw[cond_false];exact Xv hN hp0 hp hq' b0 0 sg (by omega) (by omega)
theorem zfH(p:uBp)(a b:UInt8):Lib.hasSuffix p [a,b]=decide (tail2 p=[a,b]):=by
 unfold Lib.hasSuffix tail2;rw[uAi,decide_eq_true_eq,List.isSuffixOf_iff_suffix];constructor
 ·rintro⟨t,rfl⟩;rw[show(t++[a,b]).length-2=t.length by simp];simp
 ·intro h;exact⟨_,by rw[<-h];exact mT _ _⟩
theorem zod{N:Nat}(hN:1000<N){p:uBp}(hp:p.length<=400)(hp0:p≠[])(ha:∀c∈p,c.toNat<128):Res p (zf1 N p) (edS p):=by
 have hc:=uAs (a:=(86:UInt8)) (l:=p);obtain⟨n,rfl⟩:∃n,N=n+3:=⟨N-3,by omega⟩
 unfold zf1;show Res p (bnd (some ((p.count 86:Nat):Int)) fun rr=>_) _;have hz:((p.length:Int)-((p.count 86:Nat):Int))=((szN p:Nat):Int):=by unfold szN;omega
 rw[zc,hz];have hzl:szN p<=400:=by unfold szN;omega
 rw[zh (by omega) (by omega),za];have hT:(p.take (p.length-2)).length<=400:=by rw[mH];omega
 have haT:∀c∈p.take (p.length-2),c.toNat<128:=fun c h=>ha c (uBb h)
 have eS:edS p=zgY p (zrc p):=rfl;rw[eS];unfold zrc;show Res p (j8 (n+3) (yh (n+3) (n+2)) p p 2 0 _ (edE p [] 0 0 0 0) [[67,82],[68,66]]) _;have cs:∀a b:UInt8,qp p [a,b]=some (if tail2 p=[a,b]then p.take (p.length-2)else p,decide (tail2 p=[a,b])):=fun a b=>by unfold qp Lib.trimSuffix;rw[decide_eq_true (show p.length<=9223372036854775807 by omega),za,zfH];by_cases h:tail2 p=[a,b]<;>simp[h]
 have step:∀(go)(body:uBp)(k:Nat)(a b:UInt8)(sg:Nat)(b0:Shape),k<2->atS [[67,82],[68,66]] (k:Int)=[a,b]->sg<=3->
   j8 (n+3) go p body 2 (k:Int) b0 (edE p [] 0 sg 0 0) [[67,82],[68,66]]=
    if tail2 p=[a,b]then go p (p.take (p.length-2)) 2 ((k+1:Nat):Int) b0 (edE p [] 0 (sg+1) 0 0) [[67,82],[68,66]]else go p body 2 ((k+1:Nat):Int) b0 (edE p [] 0 sg 0 0) [[67,82],[68,66]]:=fun go body k a b sg b0 hk hat hs=>by
  unfold j8;dsimp only;rw[zb,if_pos (by omega),show zn (k:Int) ([[67,82],[68,66]]:List uBp).length=true from jm hk,za,za,hat,cs,zc];dsimp only;rw[zb];by_cases h:tail2 p=[a,b]
  ·rw[if_pos h,if_pos h,if_pos h,show((sg:Int)+1)=((sg+1:Nat):Int)by omega,show((k:Int)+1)=((k+1:Nat):Int)by omega,zh (by omega) (by omega),za,zh (by omega) (by omega),za]
  ·rw[if_neg h,if_neg h,show((k:Int)+1)=((k+1:Nat):Int)by omega,zh (by omega) (by omega),za]
 have s0:=step (yh (n+3) (n+2)) p 0 67 82 0 (Shape.mk 0 0 [] 0 0 false false false false false 0) (by omega) rfl (by omega);rw[show((0:Nat):Int)=0 from rfl]at s0;have fin2:=fun body hb hab sg hs=>zf0 (N:=n+3) (p:=p) (body:=body) hN hp0 hp hb hab (Shape.mk 0 0 [] 0 0 false false false false false 0) sg hs (yh (n+3) n) [[67,82],[68,66]] 2
 rw[s0];by_cases h1:tail2 p=[67,82]
 ·rw[if_pos h1,if_pos (.inl h1)];show Res p (j8 (n+3) (yh (n+3) (n+1)) p (p.take (p.length-2)) 2 ((0+1:Nat):Int) _ (edE p [] 0 (0+1) 0 0) [[67,82],[68,66]]) _;rw[step (yh (n+3) (n+1)) (p.take (p.length-2)) (0+1) 68 66 (0+1) _ (by omega) rfl (by omega),if_neg (by rw[h1];decide)];exact fin2 _ hT haT 1 (by omega)
 ·rw[if_neg h1];show Res p (j8 (n+3) (yh (n+3) (n+1)) p p 2 ((0+1:Nat):Int) _ (edE p [] 0 0 0 0) [[67,82],[68,66]]) _;rw[step (yh (n+3) (n+1)) p (0+1) 68 66 0 _ (by omega) rfl (by omega)];by_cases h2:tail2 p=[68,66]
  ·rw[if_pos h2,if_pos (.inr h2)];exact fin2 _ hT haT 1 (by omega)
  ·rw[if_neg h2,if_neg (by rintro(h|h);exact h1 h;exact h2 h)];exact fin2 _ hp ha 0 (by omega)
end Go.Proofs.C06
end
section
set_option maxRecDepth 100000
namespace Go.Proofs.C06
open Go Go.RowKit Go.Vc Go.Am
theorem zfS:∀l,(flat l).length=tot l
 |[]=>rfl
 |(c,m)::l=>by show(List.replicate m c++flat l).length=m+tot l;rw[mM,mN,zfS l]
theorem zfB:∀(n:Nat)(s:uBp)(l:List (UInt8×Nat)),s.length<=n->items s=some l->∀x∈l,syms.contains x.1=true
 |0,s,l,hn,h,x,hx=>by have:s=[]:=uAc (by omega);subst this;rw[items]at h;cases h;cases hx
 |n+1,[],l,hn,h,x,hx=>by rw[items]at h;cases h;cases hx
 |n+1,c::r,l,hn,h,x,hx=>by
  rw[zap]at h;split at h
  ·rename_i hc;rcases hr:rep r with _|⟨m,z⟩
   ·rw[hr]at h;cases h
   ·rw[hr]at h;simp only[]at h;rcases hi:items (r.drop z)with _|l'
    ·rw[hi]at h;cases h
    ·rw[hi]at h;cases h;rcases mU.1 hx with rfl|hx
     ·exact hc
     ·exact zfB n (r.drop z) l' (by rw[mJ];simp at hn;omega) hi x hx
  ·cases h
theorem zlV:∀(l:List (UInt8×Nat)),(∀x∈l,syms.contains x.1=true)->∀c∈flat l,syms.contains c=true
 |[],_,c,hc=>by cases hc
 |(a,m)::l,h,c,hc=>by
  rcases mO.1 hc with h1|h1
  ·rw[(List.mem_replicate.1 h1).2];exact h (a,m) (by simp)
  ·exact zlV l (fun x hx=>h x (by simp[hx])) c h1
theorem zl1{s p:uBp}{e:Int}(h:exR 0 [] (items s)=(p,e))(he:e=0):p≠[]/\p.length<=256/\∀c∈p,syms.contains c=true:=by
 subst he;rcases hi:items s with _|l
 ·rw[hi]at h;cases h
 ·rw[hi]at h;unfold exR at h;simp only[uAE,nX]at h;split at h
  ·cases h
  ·split at h
   ·cases h
   ·cases h;rename_i h1 h2;have:=zfS l;refine⟨fun e=>?_,by omega,zlV l (zfB s.length s l (mG _) hi)⟩;rw[e]at this;simp at this;omega
theorem zhl{c:UInt8}(h:syms.contains c=true):c.toNat<128:=by unfold syms at h;simp only[uAa,uBo,uAV,nP,beq_iff_eq]at h;rcases h with h|h|h|h|h|h|h|h|h|h|h|h|h|h|h|h|h|h|h<;>subst h<;>decide
def zuU(c:UInt8):Bool:=([65,88]:uBp).contains c
def zev:Shape:=Shape.mk 0 0 [] 0 0 false false false false false 0
def zgO(p:uBp):Option Shape:=if cnt [65] p=p.length then some (Shape.mk 1 0 p 0 0 false false false false false (p.length:Int))else if p.countP zuU=0 then none else if cnt [65,88,57] p=p.length then some (Shape.mk 2 0 p 0 0 false false false false false (p.length:Int))else if cnt [65,88,57,66,48,47] p=p.length then some (Shape.mk 3 0 p 0 0 false false false false false (p.length:Int))else none
def zfp(p:uBp)(sh:Shape)(d:Nat):Shape×Int:=if 18<d+p.count 80 then(zev,3)else(sh,0)
def parS(p:uBp):Shape×Int:=
 match zgO p with
 |some sh=>(sh,0)
 |none=>match zbh (unS p)with
  |some (d,sc)=>zfp p (j2 p (sgS p) d sc) d
  |none=>match edS p with
   |some (d,sc,sg)=>zfp p (qf p d sc sg) d
   |none=>(zev,4)
theorem zuJ{r:uBp}{d:Nat}{sc:Int}(h:zbh r=some (d,sc)):d<=r.length:=by rcases numS_form h with⟨c,f,_,rfl,rfl,_⟩|⟨a,b,c,_,_,rfl,rfl,_⟩|⟨c,k,e,_,_,_,rfl,rfl,_⟩<;>simp<;>omega
theorem zv7(p:uBp):(unS p).length<=p.length:=by
 unfold unS;split
 ·rw[mJ];omega
 ·exact mG _
theorem ztd{sg dg sc:Nat}{t:uBp}{d c:Nat}{s:Bool}(h:fin sg dg sc t=some (d,c,s)):d=dg:=by
 unfold fin at h;split at h
 ·split at h<;>cases h;rfl
 ·split at h<;>cases h;rfl
theorem zxW(sym:uBp)(m:Nat)(t:uBp):fr sym m t<=t.length:=by
 unfold fr
 repeat' split
 all_goals first|exact YY _ _|exact uAN _
theorem zu3{sg dg m:Nat}{sym t:uBp}{d c:Nat}{s:Bool}(h:zn1 sg dg sym m t=some (d,c,s)):d<=dg+t.length:=by
 unfold zn1 at h;have hf:=zxW sym m (t.drop 1);rw[mJ]at hf;split at h
 ·split at h
  ·cases h
  ·have:=ztd h;omega
 ·have:=ztd h;omega
theorem zwy{sg dg:Nat}{sym t:uBp}{d c:Nat}{s:Bool}(h:nin sg dg sym t=some (d,c,s)):d<=dg+t.length:=by
 unfold nin at h;have:=zu3 h;have:=YY [57] t;rw[mJ]at*
 omega
theorem znD{sg:Nat}{t:uBp}{d c:Nat}{s:Bool}(h:mon sg t=some (d,c,s)):d<=t.length:=by
 have w:∀t,who sg t=some (d,c,s)->d<=t.length:=fun t h=>by rw[zky]at h;have h1:=zwy h;obtain⟨h2,h3,_,_⟩:=zoS sg t;rw[mJ]at h1;omega
 unfold mon at h;split at h
 ·have:=w _ h;rw[mJ]at this;omega
 ·exact w _ h
theorem zr6{sg:Nat}{t:uBp}{d c:Nat}{s:Bool}(h:sgn sg t=some (d,c,s)):d<=t.length:=by
 unfold sgn at h;split at h
 ·have:=znD h;rw[mJ]at this;omega
 ·split at h
  ·have:=znD h;rw[mJ]at this;omega
  ·exact znD h
theorem zwR{p:uBp}{d c:Nat}{s:Bool}(h:edS p=some (d,c,s)):d<=p.length:=by
 unfold edS zrc at h;split at h
 ·cases h
 ·split at h
  ·have:=zr6 h;have h2:=zcp (p.take (p.length-2));rw[mH]at h2;omega
  ·have:=zr6 h;have h2:=zcp p;omega
theorem X2(cs:uBp):∀l:uBp,(0<=Lib.indexAny l cs)↔l.countP (cs.contains ·)≠0
 |[]=>by simp[Lib.indexAny]
 |b::l=>by
  have ih:=X2 cs l;have hg:=Lib.indexAny_ge cs l;unfold Lib.indexAny;rw[List.countP_cons];by_cases hb:cs.contains b=true
  ·rw[if_pos hb,if_pos hb];constructor<;>intro _<;>omega
  ·have hb':cs.contains b=false:=by simpa using hb
   rw[if_neg hb,if_neg hb];by_cases hm:Lib.indexAny l cs= -1
   ·rw[if_pos (by rw[hm];rfl)];have:¬(0<=Lib.indexAny l cs):=by omega
    rw[ih]at this;constructor
    ·intro h;omega
    ·intro h;exact absurd (by simpa using h) this
   ·rw[if_neg (by simpa using hm)];have h0:0<=Lib.indexAny l cs:=by omega
    have:=ih.1 h0;constructor
    ·intro _;simpa using this
    ·intro _;omega
theorem zrU{N:Nat}(hN:1000<N){p:uBp}(hp:p.length<=400)(ha:∀c∈p,c.toNat<128):∃sh,zo0 N p=some (sh,(zgO p).isSome)/\∀x,zgO p=some x->sh=x:=by
 have C:=fun set=>YB (N:=N) (s:=p) (set:=set) (f:=0) (by omega) (by omega) (by omega)
 rw[show((0:Nat):Int)=0 from rfl,nS]at C;have hof:∀s,of_ N s=some s:=fun _=>rfl
 unfold zo0 zgO;rw[hof,zc,C,zc,zb];by_cases h1:cnt [65] p=p.length
 ·rw[if_pos (by omega),if_pos h1];exact⟨_,rfl,fun _ h=>by cases h;rfl⟩
 ·rw[if_neg (by omega),if_neg h1];have hany:Z8 p [65,88]=some (decide (p.countP zuU≠0)):=by unfold Z8;rw[decide_eq_true (show p.length<4294967281 by omega),show Vr p=true from mZ.2 (fun c hc=>decide_eq_true (ha c hc))];rw[show(true&&(decide (([65,88]:uBp).length<4294967281)&&(true&&Vr [65,88])))=true from rfl,za];congr 1;unfold Lib.containsAny;rw[uAi,decide_eq_true_eq,decide_eq_true_eq];exact X2 [65,88] p
  rw[hany,zc,zg];by_cases h2:p.countP zuU=0
  ·rw[if_neg (fun h=>h h2),if_pos h2];exact⟨_,rfl,fun _ h=>by cases h⟩
  ·rw[if_pos h2,if_neg h2,hof,zc,C,zc,zb];by_cases h3:cnt [65,88,57] p=p.length
   ·rw[if_pos (by omega),if_pos h3];exact⟨_,rfl,fun _ h=>by cases h;rfl⟩
   ·rw[if_neg (by omega),if_neg h3,hof,zc,C,zc,zb];by_cases h4:cnt [65,88,57,66,48,47] p=p.length
    ·rw[if_pos (by omega),if_pos h4];exact⟨_,rfl,fun _ h=>by cases h;rfl⟩
    ·rw[if_neg (by omega),if_neg h4];exact⟨_,rfl,fun _ h=>by cases h⟩
theorem zrz{N:Nat}(hN:1000<N){s:uBp}(hs:s.length<=400):zmK N s=some (if(exR 0 [] (items s)).2=0 then parS (exR 0 [] (items s)).1 else(zev,(exR 0 [] (items s)).2)):=by
 unfold zmK;rw[zoP hN hs,zc,zg];by_cases h0:(exR 0 [] (items s)).2=0
 ·rw[if_pos h0,if_pos h0];obtain⟨hp0,hpl,hsy⟩:=zl1 (show exR 0 [] (items s)=((exR 0 [] (items s)).1,(exR 0 [] (items s)).2)from rfl) h0;generalize (exR 0 [] (items s)).1=p at*
  have ha:∀c∈p,c.toNat<128:=fun c hc=>zhl (hsy c hc)
  have hP:=uAs (a:=(80:UInt8)) (l:=p);have lim:∀(sh:Shape)(d:Nat),d<=p.length->sh.uA=(d:Int)->(bnd (Zk p [80]) fun rr2=>chk (zd .i64 (sh.uA+rr2))<|cond (decide (18<(sh.uA+rr2))) (some (zev,(3:Int))) (some (sh,0)))=some (zfp p sh d):=fun sh d hd he=>by
   show(bnd (some ((p.count 80:Nat):Int)) fun rr2=>_)=_;rw[zc,he,show((d:Int)+((p.count 80:Nat):Int))=((d+p.count 80:Nat):Int)by omega,zh (by omega) (by omega),za,zb];unfold zfp;by_cases h:18<d+p.count 80
   ·rw[if_pos (by omega),if_pos h]
   ·rw[if_neg (by omega),if_neg h]
  obtain⟨sh1,t1,t2⟩:=zrU hN (p:=p) (by omega) ha;rw[t1,zc];unfold parS;cases h1:zgO p with
  |some x=>
   have:=t2 x h1;subst this;have hd:sh1.uA=((0:Nat):Int)/\p.count 80=0:=by
    have h80:∀set:uBp,set.contains 80=false->cnt set p=p.length->p.count 80=0:=fun set h h'=>by
     refine uA8.2 fun hm=>?_
     obtain⟨j,hj,he⟩:=List.mem_iff_getElem.1 hm;have hmem:(80:UInt8)∈p.take (cnt set p):=by rw[h',uAx];exact hm
     have:=Q1 set p _ (mG _) 80 hmem;rw[this]at h;cases h
    unfold zgO at h1;split at h1
    ·rename_i h;cases h1;exact⟨rfl,h80 _ rfl h⟩
    ·split at h1
     ·cases h1
     ·split at h1
      ·rename_i h;cases h1;exact⟨rfl,h80 _ rfl h⟩
      ·split at h1
       ·rename_i h;cases h1;exact⟨rfl,h80 _ rfl h⟩
       ·cases h1
   have:=lim sh1 0 (by omega) hd.1;have hl:zfp p sh1 0=(sh1,0):=by unfold zfp;rw[hd.2,if_neg (by omega)]
   rw[hl]at this;exact this
  |none=>
   obtain⟨sh2,n1,n2⟩:=zlo hN (p:=p) (by omega);rw[zqE]at n1 n2;dsimp only[Option.isSome];rw[cond_false,n1,zc];cases h2:zbh (unS p)with
   |some x=>obtain⟨d,sc⟩:=x;have:=n2 d sc h2;subst this;have:=zv7 p;have:=zuJ h2;exact lim (j2 p (sgS p) d sc) d (by omega) rfl
   |none=>
    obtain⟨sh3,e1,e2⟩:=zod hN (p:=p) (by omega) hp0 ha;dsimp only[Option.isSome];rw[cond_false,e1,zc];cases h3:edS p with
    |some x=>obtain⟨d,sc,sg⟩:=x;have:=e2 d sc sg h3;subst this;have:=zwR h3;exact lim (qf p d sc sg) d this rfl
    |none=>rfl
 ·rw[if_neg h0,if_neg h0];rfl
end Go.Proofs.C06
end
section
set_option maxRecDepth 100000
namespace Go.Proofs.C06
open Go Go.RowKit Go.Vc Go.Am
theorem zwb{c:UInt8}(h:syms.contains c=true):c≠40/\c≠41:=by constructor<;>rintro rfl<;>cases h
theorem zqS{c:UInt8}{t:uBp}(hc:syms.contains c=true)(ht:t.getD 0 0≠40):items (c::t)=(items t).map ((c,1):: ·):=by
 rw[zap,if_pos hc];have:rep t=some (1,0):=by unfold rep;rw[if_neg ht]
 rw[this];rfl
theorem znX{p:uBp}(h:∀c∈p,syms.contains c=true):p.getD 0 0≠40:=by
 cases p with
 |nil=>decide
 |cons c r=>exact (zwb (h c (by simp))).1
theorem zao:∀p:uBp,(∀c∈p,syms.contains c=true)->∃l,items p=some l/\flat l=p
 |[],_=>by rw[items];exact⟨[],rfl,rfl⟩
 |c::r,h=>by
  obtain⟨l,h1,h2⟩:=zao r (fun x hx=>h x (by simp[hx]));refine⟨(c,1)::l,?_,?_⟩
  ·rw[zqS (h c (by simp)) (znX (fun x hx=>h x (by simp[hx]))),h1];rfl
  ·show List.replicate 1 c++flat l=_;rw[h2];rfl
theorem zth{l:List (UInt8×Nat)}{p:uBp}(h:flat l=p)(h0:p≠[])(h1:p.length<=256):exR 0 [] (some l)=(p,0):=by have:=zfS l;rw[h]at this;have:0<p.length:=List.length_pos_iff.2 h0;unfold exR;simp only[uAE,nX];rw[if_neg (by omega),if_neg (by omega),h]
end Go.Proofs.C06
end
section
set_option maxRecDepth 100000
namespace Go.Proofs.C06
open Go Go.RowKit Go.Vc Go.Am
def sizeV(s:Shape):Int:=if s.uD=0 then s.uG else if s.uD≠4 then(szN s.uC:Int)else if s.uI=1 then s.uA/2+1 else if s.uI=2 then(if s.uA<=4 then 2 else if s.uA<=9 then 4 else 8)else if s.uL=true then s.uA+1 else s.uA
def ZC(s:Shape):Int:=if 5<s.uD\/2<s.uI then 12 else if s.uD=0/\(s.uG<0\/1048576<s.uG)then 1 else if s.uD=4/\(s.uA<1\/18<s.uA)then 1 else 0
theorem znB{N:Nat}{s:Shape}(h4:s.uD=4)(hd:1<=s.uA/\s.uA<=18):zaf N s=some (sizeV s):=by
 unfold zaf sizeV VQ VP;rw[if_neg (by omega),if_neg (by omega),zb];by_cases h1:s.uI=1
 ·have:zd .i64 (s.uA/2)=true:=zh (by omega) (by omega);have h0:zf s.uA=true:=decide_eq_true (by omega);rw[if_pos h1,if_pos h1,this,h0,zh (by omega) (by omega)];rfl
 ·rw[if_neg h1,if_neg h1,zb];by_cases h2:s.uI=2
  ·rw[if_pos h2,if_pos h2,zb];by_cases h3:s.uA<=4
   ·rw[if_pos h3,if_pos h3]
   ·rw[if_neg h3,if_neg h3,zb,if_pos h2,zb];by_cases h5:s.uA<=9
    ·rw[if_pos h5,if_pos h5]
    ·rw[if_neg h5,if_neg h5,zb,if_pos h2]
  ·rw[if_neg h2,if_neg h2,cond_false,zb,if_neg h2,cond_false,zb,if_neg h2];cases s.uL with
   |true=>rw[cond_true,zh (by omega) (by omega),za,if_pos rfl]
   |false=>rw[cond_false,if_neg (by simp)]
theorem zrw{N:Nat}{s:Shape}(hp:s.uC.length<=400):∃v,zpY N s=some (v,ZC s)/\(ZC s=0->v=sizeV s):=by
 have hc:=uAs (a:=(86:UInt8)) (l:=s.uC);unfold zpY zb1 Vu ZC;rw[zb];by_cases h1:5<s.uD
 ·rw[if_pos h1,cond_true,if_pos (.inl h1)];exact⟨_,rfl,fun h=>by cases h⟩
 ·rw[if_neg h1,zb];by_cases h2:2<s.uI
  ·rw[if_pos h2,if_pos (.inr h2)];exact⟨_,rfl,fun h=>by cases h⟩
  ·rw[if_neg h2,if_neg (by rintro(h|h);exact h1 h;exact h2 h),zb];by_cases h3:s.uD=0
   ·rw[if_pos h3,zb];by_cases h4:s.uG<0
    ·rw[if_pos h4,cond_true,if_pos ⟨h3,.inl h4⟩];exact⟨_,rfl,fun h=>by cases h⟩
    ·rw[if_neg h4,zb];by_cases h5:1048576<s.uG
     ·rw[if_pos h5,if_pos ⟨h3,.inr h5⟩];exact⟨_,rfl,fun h=>by cases h⟩
     ·rw[if_neg h5,if_neg (fun h=>by rcases h.2 with h|h;exact h4 h;exact h5 h),if_neg (fun h=>by omega),zb,if_pos h3];exact⟨_,rfl,fun _=>by unfold sizeV;rw[if_pos h3]⟩
   ·rw[if_neg h3,cond_false,zb,if_neg h3,if_neg (fun h=>h3 h.1),zg];by_cases h4:s.uD=4
    ·rw[if_pos h4,zb];by_cases h5:s.uA<1
     ·rw[if_pos h5,if_pos ⟨h4,.inl h5⟩];exact⟨_,rfl,fun h=>by cases h⟩
     ·rw[if_neg h5,zb];by_cases h6:18<s.uA
      ·rw[if_pos h6,if_pos ⟨h4,.inr h6⟩];exact⟨_,rfl,fun h=>by cases h⟩
      ·rw[if_neg h6,if_neg (fun h=>by rcases h.2 with h|h;exact h5 h;exact h6 h),znB h4 ⟨by omega,by omega⟩,zc];exact⟨_,rfl,fun _=>rfl⟩
    ·rw[if_neg h4,if_neg (fun h=>h4 h.1)];show∃v,(bnd (some ((s.uC.count 86:Nat):Int)) fun rr=>_)=_/\_;have hz:((s.uC.length:Int)-((s.uC.count 86:Nat):Int))=((szN s.uC:Nat):Int):=by unfold szN;omega
     have hzl:szN s.uC<=400:=by unfold szN;omega
     rw[zc,hz,zh (by omega) (by omega),za];exact⟨_,rfl,fun _=>by unfold sizeV;rw[if_neg h3,if_pos h4]⟩
end Go.Proofs.C06
end
section
set_option maxRecDepth 100000
namespace Go.Proofs.C06
open Go Go.RowKit Go.Vc Go.Am
def Ki(s:Shape)(bad:Bool):Int:=if bad=true then 1 else if s.uI≠0/\s.uD≠4 then 12 else if(s.uK=true\/s.uL=true)/\(s.uD≠4\/s.uI≠0\/s.uE=false)then 12 else if s.uN=true/\s.uD≠1/\s.uD≠2 then 12 else if s.uJ=true/\s.uD≠5 then 12 else if s.uG=sizeV s then 0 else 5
theorem Vy(N:Nat)(s:Shape)(t:Bool):ZV N (sizeV s) t s=some (if t=true then 12 else if s.uG=sizeV s then 0 else 5):=by
 unfold ZV;cases t with
 |true=>rfl
 |false=>
  rw[cond_false,zg];by_cases h:s.uG=sizeV s
  ·rw[if_pos h,if_pos h];rfl
  ·rw[if_neg h,if_neg h];rfl
theorem zmR(N:Nat)(s:Shape)(t:Bool):Vw N (sizeV s) t s=some (if t=true then 12 else if s.uJ=true/\s.uD≠5 then 12 else if s.uG=sizeV s then 0 else 5):=by
 unfold Vw;simp only[Vy];cases t with
 |true=>rfl
 |false=>
  cases s.uJ with
  |true=>by_cases h:s.uD=5<;>simp[h]
  |false=>simp
theorem zmS(N:Nat)(s:Shape)(texts t:Bool)(ht:texts=decide (s.uD=1\/s.uD=2)):ZU N (sizeV s) texts t s=
  some (if t=true then 12 else if s.uN=true/\s.uD≠1/\s.uD≠2 then 12 else if s.uJ=true/\s.uD≠5 then 12 else if s.uG=sizeV s then 0 else 5):=by
 unfold ZU;simp only[zmR,Vy];subst ht;cases t with
 |true=>rfl
 |false=>
  cases s.uN with
  |true=>
   by_cases h1:s.uD=1
   ·simp[h1]
   ·by_cases h2:s.uD=2
    ·simp[h2]
    ·simp[h1,h2]
  |false=>simp
theorem zmT(N:Nat)(s:Shape)(zoned texts t:Bool)(hz:zoned=decide (s.uD=4/\s.uI=0))(ht:texts=decide (s.uD=1\/s.uD=2)):Vx N (sizeV s) zoned texts t s=
  some (if t=true then 12 else if(s.uK=true\/s.uL=true)/\(s.uD≠4\/s.uI≠0\/s.uE=false)then 12 else if s.uN=true/\s.uD≠1/\s.uD≠2 then 12 else if s.uJ=true/\s.uD≠5 then 12 else if s.uG=sizeV s then 0 else 5):=by
 unfold Vx;simp only[zmS _ _ _ _ ht,Vy];subst hz;cases t with
 |true=>rfl
 |false=>
  by_cases h1:s.uD=4
  ·by_cases h2:s.uI=0
   ·cases s.uK<;>cases s.uL<;>cases s.uE<;>simp[h1,h2]
   ·cases s.uK<;>cases s.uL<;>simp[h1,h2]
  ·cases s.uK<;>cases s.uL<;>simp[h1]
theorem zmU(N:Nat)(s:Shape)(zoned texts t:Bool)(hz:zoned=decide (s.uD=4/\s.uI=0))(ht:texts=decide (s.uD=1\/s.uD=2)):Yh N (sizeV s) zoned texts t s=some (Ki s t):=by
 unfold Yh Ki;simp only[zmT _ _ _ _ _ hz ht];cases t with
 |true=>rfl
 |false=>
  by_cases h1:s.uD=4
  ·by_cases h2:s.uI=0<;>simp[h1,h2]
  ·by_cases h2:s.uI=0<;>simp[h1,h2]
def yd(p:uBp):Shape×Int:=if(exR 0 [] (items p)).2=0 then parS (exR 0 [] (items p)).1 else(zev,(exR 0 [] (items p)).2)
def zfJ(s:Shape):Prop:=s.uI=0/\s.uC=[]/\s.uA=0/\s.uB=0/\s.uE=false/\s.uK=false/\s.uL=false/\s.uN=false/\s.uJ=false
instance(s:Shape):Decidable (zfJ s):=by unfold zfJ;infer_instance
def zfj(s:Shape):Int:=if(yd s.uC).2≠0 then(yd s.uC).2 else if(yd s.uC).1.uC≠s.uC then 4 else Ki s (decide ((yd s.uC).1.uD≠s.uD\/(yd s.uC).1.uA≠s.uA\/(yd s.uC).1.uB≠s.uB\/(yd s.uC).1.uE≠s.uE))
def chkV(s:Shape):Int:=if ZC s≠0 then ZC s else if s.uD=0 then(if zfJ s then 0 else 1)else zfj s
theorem zt7{N:Nat}(hN:1000<N){s:uBp}(hs:s.length<=400):zmK N s=some (yd s):=zrz hN hs
theorem Wr{N:Nat}(hN:1000<N){s:Shape}(hp:s.uC.length<=400):zdF N s=some (chkV s):=by
 unfold zdF chkV;obtain⟨v,h1,h2⟩:=zrw (N:=N) hp;rw[h1,zc,zg];dsimp only;by_cases h3:ZC s=0
 ·rw[if_pos h3,if_neg (fun h=>h h3),zb];have hv:=h2 h3;subst hv;by_cases h0:s.uD=0
  ·rw[if_pos h0,if_pos h0];have:(decide (s.uD=0)&&(decide (s.uI=0)&&(decide (s.uC=([]:uBp))&&(decide (s.uA=0)&&(decide (s.uB=0)&&(decide (s.uE=false)&&(decide (s.uK=false)&&(decide (s.uL=false)&&(decide (s.uN=false)&&(decide (s.uJ=false)&&(decide (s.uG=s.uG)&&true)))))))))))=decide (zfJ s):=by rw[uAi,decide_eq_true_iff (p:=zfJ s)];simp[zfJ,h0]
   rw[this,zg];by_cases hg:zfJ s
   ·rw[if_pos hg,if_pos hg]
   ·rw[if_neg hg,if_neg hg]
  ·rw[if_neg h0,if_neg h0,zt7 hN hp,zc];have key:∀zoned,zoned=decide (s.uD=4/\s.uI=0)->Yi N (sizeV s) (yd s.uC).2 zoned s (yd s.uC).1=some (zfj s):=fun zoned hz=>by
    have k1:∀texts,texts=decide (s.uD=1\/s.uD=2)->Vz N (sizeV s) (yd s.uC).2 zoned texts s (yd s.uC).1=some (zfj s):=fun texts ht=>by
     unfold Vz zfj;simp only[zmU _ _ _ _ _ hz ht];by_cases e1:(yd s.uC).2=0
     ·by_cases e2:(yd s.uC).1.uC=s.uC
      ·by_cases e3:(yd s.uC).1.uD=s.uD
       ·by_cases e4:(yd s.uC).1.uA=s.uA
        ·by_cases e5:(yd s.uC).1.uB=s.uB<;>simp[e1,e2,e3,e4,e5]
        ·simp[e1,e2,e3,e4]
       ·simp[e1,e2,e3]
      ·simp[e1,e2]
     ·simp[e1]
    unfold Yi;rw[zb];by_cases c1:s.uD=1
    ·rw[if_pos c1];exact k1 true (by simp[c1])
    ·rw[if_neg c1];exact k1 _ (by simp[c1])
   show cond (decide (s.uD=4)) (Yi N (sizeV s) (yd s.uC).2 (decide (s.uI=0)) s (yd s.uC).1) (Yi N (sizeV s) (yd s.uC).2 false s (yd s.uC).1)=_;rw[zb];by_cases h4:s.uD=4
   ·rw[if_pos h4];exact key _ (by simp[h4])
   ·rw[if_neg h4];exact key _ (by simp[h4])
 ·rw[if_neg h3,if_pos h3]
end Go.Proofs.C06
end
section
set_option maxRecDepth 100000
namespace Go.Proofs.C06
open Go Go.RowKit Go.Vc Go.Am
structure Good(p:uBp)(sh:Shape):Prop where
 par:parS p=(sh,0)
 ne:p≠[]
 len:p.length<=80
 sym:∀c∈p,syms.contains c=true
 pic:sh.uC=p
 cat:1<=sh.uD/\sh.uD<=5
 use:sh.uI=0
 dig:sh.uA<=18
 num:sh.uD=4->1<=sh.uA
 sca:sh.uB<=18
 led:sh.uK=false
 sep:sh.uL=false
 jus:sh.uN=false
 bla:sh.uJ=false
 siz:sh.uG=sizeV sh
theorem zqY{p:uBp}{sh:Shape}(h:Good p sh):yd p=(sh,0):=by obtain⟨l,h1,h2⟩:=zao p h.sym;unfold yd;rw[h1,zth h2 h.ne (by have:=h.len;omega),if_pos rfl,h.par]
end Go.Proofs.C06
end
section
set_option maxRecDepth 100000
namespace Go.Proofs.C06
open Go Go.RowKit Go.Vc Go.Am
structure NS(s:Shape)(n:Nat):Prop where
 dig:s.uA=(n:Int)
 n1:1<=n
 n18:n<=18
 cat:s.uD=4
 use:s.uI=0\/s.uI=1\/s.uI=2
 sc1: -18<=s.uB
 sc2:s.uB<=18
 sep:s.uK=true\/s.uL=true->s.uI=0/\s.uE=true
 siz:s.uG=sizeV s
theorem Y8(a c:UInt8)(n:Nat):(rp n a).count c=if a=c then n else 0:=by unfold rp;rw[List.count_replicate];by_cases h:a=c<;>simp[h]
theorem zu6{r:uBp}{d:Nat}{sc:Int}(h:zmM r d sc): -(r.count 80:Int)<=sc/\sc<=(d:Int)+(r.count 80:Int):=by
 rcases h with⟨c,f,h1,h2,h3,h4⟩|⟨a,b,c,h1,h2,h3,h4,h5⟩|⟨c,k,e,h1,h2,h3,h4,h5,h6⟩
 ·omega
 ·have:r.count 80=b:=by rw[h3,mY,mY,Y8,Y8,Y8];simp
  split at h5<;>omega
 ·have:r.count 80=k:=by rw[h4,mY,mY,Y8,Y8,Y8];simp
  omega
theorem zsw{p:uBp}{sh:Shape}(h:parS p=(sh,0))(h4:sh.uD=4): -18<=sh.uB/\sh.uB<=18:=by
 unfold parS at h;split at h
 ·rename_i x hx;cases h;unfold zgO at hx;split at hx
  ·cases hx;cases h4
  ·split at hx
   ·cases hx
   ·split at hx
    ·cases hx;cases h4
    ·split at hx
     ·cases hx;cases h4
     ·cases hx
 ·split at h
  ·rename_i d sc hn;unfold zfp at h;split at h
   ·cases h
   ·rename_i hlim;cases h;have hf:=zu6 (numS_form hn);have hle:(unS p).count 80<=p.count 80:=by
     unfold unS;split
     ·exact (List.drop_sublist 1 p).count_le 80
     ·exact mG _
    show-18<=sc/\sc<=18;omega
  ·split at h
   ·unfold zfp at h;split at h
    ·cases h
    ·cases h;cases h4
   ·cases h
theorem W8{s:Shape}{b:Bool}(h:Ki s b=0):b=false/\((s.uK=true\/s.uL=true)->s.uD=4/\s.uI=0/\s.uE=true)/\s.uG=sizeV s:=by
 unfold Ki at h;split at h
 ·cases h
 ·rename_i hb;split at h
  ·cases h
  ·split at h
   ·cases h
   ·rename_i h2;split at h
    ·cases h
    ·split at h
     ·cases h
     ·split at h
      ·rename_i h5;refine⟨by simpa using hb,fun hl=>?_,h5⟩;by_cases c4:s.uD=4
       ·by_cases u0:s.uI=0
        ·cases hs:s.uE with
         |true=>exact⟨c4,u0,rfl⟩
         |false=>exact absurd ⟨hl,.inr (.inr hs)⟩ h2
        ·exact absurd ⟨hl,.inr (.inl u0)⟩ h2
       ·exact absurd ⟨hl,.inl c4⟩ h2
      ·cases h
theorem zpg{s:Shape}(h:chkV s=0)(h4:s.uD=4)(hu:0<=s.uI):∃n,NS s n:=by
 unfold chkV at h;by_cases hE:ZC s=0
 ·rw[if_neg (fun h=>h hE),if_neg (by omega)]at h;unfold ZC at hE;split at hE
  ·cases hE
  ·rename_i e1;split at hE
   ·cases hE
   ·split at hE
    ·cases hE
    ·rename_i e3;unfold zfj at h;by_cases h1:(yd s.uC).2=0
     ·rw[if_neg (fun h=>h h1)]at h;split at h
      ·cases h
      ·obtain⟨t1,t2,t3⟩:=W8 h;have t1:=of_decide_eq_false t1;have hc:(yd s.uC).1.uD=4:=by rw[<-h4];exact Classical.byContradiction fun hne=>t1 (.inl hne)
       have hs:(yd s.uC).1.uB=s.uB:=Classical.byContradiction fun hne=>t1 (.inr (.inr (.inl hne)))
       have hb: -18<=(yd s.uC).1.uB/\(yd s.uC).1.uB<=18:=by
        unfold yd at h1 hc⊢;split
        ·rename_i hx;rw[if_pos hx]at h1 hc;exact zsw (Prod.ext rfl h1) hc
        ·rename_i hx;rw[if_neg hx]at h1;exact absurd h1 hx
       rw[hs]at hb;have hd:1<=s.uA/\s.uA<=18:=by omega
       refine⟨s.uA.toNat,⟨by omega,by omega,by omega,h4,by omega,hb.1,hb.2,fun hl=>(t2 hl).2,t3⟩⟩
     ·rw[if_pos h1]at h;exact absurd h h1
 ·rw[if_pos hE]at h;exact absurd h hE
end Go.Proofs.C06
end
