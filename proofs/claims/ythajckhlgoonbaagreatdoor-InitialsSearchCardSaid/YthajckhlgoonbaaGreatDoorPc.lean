/-
  A part of the proof of the laws.
-/
import Derived.Test.YthajckhlgoonbaaGreatDoorPa
section
set_option maxRecDepth 100000
namespace Go.Proofs.C06
open Go Go.RowKit Go.Vc Go.Am
abbrev EdV:=Option (Nat×Nat×Bool)
def fin(sg dg sc:Nat)(t:List UInt8):EdV:=if t=[43]∨t=[45]then(if sg+1<2∧0<dg then some (dg,sc,true)else none)else if t=[]∧sg<2∧0<dg then some (dg,sc,decide (0<sg))else none
def fr(sym:List UInt8)(m:Nat)(t:List UInt8):Nat:=if 0<cnt [57] t∨0<m then cnt [57] t else if sym≠[]then cnt sym t else if t.getD 0 0=90∨t.getD 0 0=42 then cnt [t.getD 0 0] t else 0
def zmg(sg dg:Nat)(sym:List UInt8)(m:Nat)(t:List UInt8):EdV:=if t.getD 0 0=46∨t.getD 0 0=86 then if t.getD 0 0=46∧fr sym m (t.drop 1)=0 then none else fin sg (dg+fr sym m (t.drop 1)) (fr sym m (t.drop 1)) (t.drop (1+fr sym m (t.drop 1)))else fin sg dg 0 t
def nin(sg dg:Nat)(sym:List UInt8)(t:List UInt8):EdV:=zmg sg (dg+cnt [57] t) sym (cnt [57] t) (t.drop (cnt [57] t))
def who(sg:Nat)(t:List UInt8):EdV:=if 0<cnt [90] t then nin sg (cnt [90] t) [90] (t.drop (cnt [90] t))else if 0<cnt [42] t then nin sg (cnt [42] t) [42] (t.drop (cnt [42] t))else if 1<cnt [36] t then nin sg (cnt [36] t-1) [36] (t.drop (cnt [36] t))else if 1<cnt [43] t then nin (sg+1) (cnt [43] t-1) [43] (t.drop (cnt [43] t))else if 1<cnt [45] t then nin (sg+1) (cnt [45] t-1) [45] (t.drop (cnt [45] t))else nin sg 0 [] t
def mon(sg:Nat)(t:List UInt8):EdV:=if cnt [36] t=1 then who sg (t.drop 1)else who sg t
def sgn(sg:Nat)(t:List UInt8):EdV:=if cnt [43] t=1 then mon (sg+1) (t.drop 1)else if cnt [45] t=1 then mon (sg+1) (t.drop 1)else mon sg t
def Y1(p:List UInt8):List UInt8:=p.drop (p.length-2)
def zoe(p:List UInt8):EdV:=if Y1 p=[67,82]∨Y1 p=[68,66]then sgn 1 (Z3 (p.take (p.length-2)))else sgn 0 (Z3 p)
def edS(p:List UInt8):EdV:=if p.getD 0 0=44∨p.getD (p.length-1) 0=44 then none else zoe p
def szN(p:List UInt8):Nat:=p.length-p.count 86
def K3(p:List UInt8)(dg sc:Nat)(sg:Bool):Shape:=Shape.mk 5 0 p dg sc sg false false false false (szN p)
def Res(p:List UInt8)(o:Option (Shape×Bool))(v:EdV):Prop:=∃sh,o=some (sh,v.isSome)∧∀d sc sg,v=some (d,sc,sg)→sh=K3 p d sc sg
theorem Res.no{p:List UInt8}{sh:Shape}:Res p (some (sh,false)) none:=⟨sh,rfl,fun _ _ _ h=>by cases h⟩
theorem Res.yes{p:List UInt8}{d sc:Nat}{sg:Bool}{sh:Shape}(h:sh=K3 p d sc sg):Res p (some (sh,true)) (some (d,sc,sg)):=⟨sh,rfl,fun _ _ _ e=>by cases e;exact h⟩
section
variable {N : Nat} (hN : 1000 < N) {p q : List UInt8} (hq : q.length ≤ 400) (b0 : Shape)
include hN hq
omit hN hq in
theorem WN(set:List UInt8)(k:Nat)(h:k≤q.length):k+cnt set (q.drop k)≤q.length:=by have:=Jp set (q.drop k);rw[List.length_drop]at this;omega
end
end Go.Proofs.C06
end
section
set_option maxRecDepth 100000
namespace Go.Proofs.C06
open Go Go.RowKit Go.Vc Go.Am
section
variable {N : Nat} (hN : 1000 < N) {p q : List UInt8} (hq : q.length ≤ 400) (b0 : Shape)
include hN hq
end
theorem VL(s:List UInt8):(Z3 s).length≤s.length:=List.length_filter_le ..
end Go.Proofs.C06
end
section
set_option maxRecDepth 100000
namespace Go.Proofs.C06
open Go Go.RowKit Go.Vc Go.Am
abbrev edE(p q:List UInt8)(i sg dg sc:Nat):editor:=editor.mk q i sg 5 0 p dg sc false false false false false (szN p)
section
variable {N : Nat} (hN : 1000 < N) {p q : List UInt8} (hq : q.length ≤ 400)
include hN hq
theorem XM(set:List UInt8)(k:Nat)(h2:k≤q.length):zT N q (k:Int) set=some ((cnt set (q.drop k):Nat):Int):=
 Jb (by omega) (by omega) h2
theorem QV(set:List UInt8)(i sg dg sc:Nat)(hi:i≤q.length):
  WL N set (edE p q i sg dg sc)=some (((cnt set (q.drop i):Nat):Int),edE p q (i+cnt set (q.drop i)) sg dg sc):=by
 have hle:=WN (q:=q) set i hi;unfold WL of_;dsimp only;rw[zc,XM hN hq set i hi,zc,show((i:Int)+((cnt set (q.drop i):Nat):Int))=((i+cnt set (q.drop i):Nat):Int)by omega,zt (by omega) (by omega),za]
omit hN in
theorem JZ(c:UInt8)(f:Nat):∀(n k:Nat),f+k≤q.length→q.length-(f+k)<n→
  yf N n q (f:Int) (k:Int) (c.toNat:Int)=some (((k+cnt [c] (q.drop (f+k)):Nat):Int),(c.toNat:Int))
 |0,k,_,h=>by omega
 |n+1,k,hk,h=>by
  show qD N (yf N n) q f k c.toNat=_;unfold qD;have e:((f:Int)+(k:Int))=((f+k:Nat):Int):=by omega
  rw[e,zt (by omega) (by omega),za,zb];by_cases hlt:f+k<q.length
  ·rw[if_pos (by omega),za,jH hlt,za,z6,ye hlt,ZU];unfold zdT;rw[zc,zb];by_cases hc:q.getD (f+k) 0=c
   ·rw[if_pos (Jf.2 hc),if_pos (by rw[hc];simp),show((k:Int)+1)=((k+1:Nat):Int)by omega,zt (by omega) (by omega),za,JZ c f n (k+1) (by omega) (by omega)];congr 3;rw[show f+(k+1)=f+k+1 by omega];omega
   ·rw[if_neg (fun e=>hc (Jf.1 e)),if_neg (by simp;exact hc)];rfl
  ·rw[if_neg (by omega),List.drop_eq_nil_of_le (by omega)];rfl
theorem WV(c:UInt8)(f:Nat)(hf:f≤q.length):Ja N q (f:Int) (c.toNat:Int)=some (((cnt [c] (q.drop f):Nat):Int),(c.toNat:Int)):=by unfold Ja;have:=JZ (N:=N) (q:=q) hq c f N 0 (by omega) (by omega);simpa using this
theorem Y4(set:List UInt8)(hset:set.length≤10)(i sg dg sc n k:Nat)(hi:i≤q.length)(hk:k<set.length):
  yP N (n+1) (set.length:Int) (k:Int) (edE p q i sg dg sc) set=
   if cnt [set.getD k 0] (q.drop i)=1 then some (true,edE p q (i+1) sg dg sc)else yP N n (set.length:Int) ((k+1:Nat):Int) (edE p q i sg dg sc) set:=by
 show qK N (yP N n) set.length k (edE p q i sg dg sc) set=_;unfold qK;dsimp only;rw[zb,if_pos (by omega),jH hk,za,za,z6,WV hN hq _ _ hi,zc,zb];by_cases h:cnt [set.getD k 0] (q.drop i)=1
 ·rw[if_pos (by omega),if_pos h,show((i:Int)+1)=((i+1:Nat):Int)by omega,zt (by omega) (by omega),za]
 ·rw[if_neg (by omega),if_neg h,show((k:Int)+1)=((k+1:Nat):Int)by omega,zt (by omega) (by omega),za]
omit hN hq in
theorem zaS(set:List UInt8)(i sg dg sc n:Nat):yP N (n+1) (set.length:Int) (set.length:Int) (edE p q i sg dg sc) set=some (false,edE p q i sg dg sc):=by show qK N (yP N n) set.length set.length (edE p q i sg dg sc) set=_;unfold qK;rw[zb,if_neg (by omega)]
theorem zhw(c:UInt8)(i sg dg sc:Nat)(hi:i≤q.length):Y5 N [c] (edE p q i sg dg sc)=some (if cnt [c] (q.drop i)=1 then(true,edE p q (i+1) sg dg sc)else(false,edE p q i sg dg sc)):=by
 obtain⟨n,rfl⟩:∃n,N=n+2:=⟨N-2,by omega⟩
 have s0:=Y4 (p:=p) hN hq [c] (by simp) i sg dg sc (n+1) 0 hi (by simp);have s1:=zaS (N:=n+2) (p:=p) (q:=q) [c] i sg dg sc n;unfold Y5;rw[show((0:Nat):Int)=0 from rfl]at s0;rw[s0];show(if cnt [c] (q.drop i)=1 then _ else _)=_;split
 ·rfl
 ·exact s1
theorem zhv(c d:UInt8)(i sg dg sc:Nat)(hi:i≤q.length):Y5 N [c,d] (edE p q i sg dg sc)=some (if cnt [c] (q.drop i)=1 then(true,edE p q (i+1) sg dg sc)else if cnt [d] (q.drop i)=1 then(true,edE p q (i+1) sg dg sc)else(false,edE p q i sg dg sc)):=by
 obtain⟨n,rfl⟩:∃n,N=n+3:=⟨N-3,by omega⟩
 have s0:=Y4 (p:=p) hN hq [c,d] (by simp) i sg dg sc (n+2) 0 hi (by simp);have s1:=Y4 (p:=p) hN hq [c,d] (by simp) i sg dg sc (n+1) 1 hi (by simp);have s2:=zaS (N:=n+3) (p:=p) (q:=q) [c,d] i sg dg sc n;unfold Y5;rw[show((0:Nat):Int)=0 from rfl]at s0;rw[s0];show(if cnt [c] (q.drop i)=1 then _ else _)=_;split
 ·rfl
 ·refine s1.trans ?_;show(if cnt [d] (q.drop i)=1 then _ else _)=_;split
  ·rfl
  ·exact s2
theorem zfi(sym:List UInt8)(i sg dg:Nat)(hi:i≤q.length)(hd:dg≤400):
  zq N sym (edE p q i sg dg 0)=some (sym,decide (0<cnt [57] (q.drop i)),edE p q (i+cnt [57] (q.drop i)) sg (dg+cnt [57] (q.drop i)) 0):=by
 have hle:=WN (q:=q) [57] i hi;unfold zq;rw[QV hN hq [57] i sg dg 0 hi,zc];dsimp only;rw[show((dg:Int)+((cnt [57] (q.drop i):Nat):Int))=((dg+cnt [57] (q.drop i):Nat):Int)by omega,zt (by omega) (by omega),za];congr 2;congr 1;rw[Bool.eq_iff_iff];simp
def whoV(sg:Nat)(t:List UInt8):List UInt8×Nat×Nat×Nat:=if 0<cnt [90] t then([90],cnt [90] t,sg,cnt [90] t)else if 0<cnt [42] t then([42],cnt [42] t,sg,cnt [42] t)else if 1<cnt [36] t then([36],cnt [36] t,sg,cnt [36] t-1)else if 1<cnt [43] t then([43],cnt [43] t,sg+1,cnt [43] t-1)else if 1<cnt [45] t then([45],cnt [45] t,sg+1,cnt [45] t-1)else([],0,sg,0)
omit hN hq in
theorem zfj(sg:Nat)(t:List UInt8):who sg t=nin (whoV sg t).2.2.1 (whoV sg t).2.2.2 (whoV sg t).1 (t.drop (whoV sg t).2.1):=by
 unfold who whoV
 repeat' split
 all_goals rfl
omit hN hq in
theorem zi4(sg:Nat)(t:List UInt8):(whoV sg t).2.1≤t.length∧(whoV sg t).2.2.2≤(whoV sg t).2.1∧(whoV sg t).2.2.1≤sg+1∧(whoV sg t).1.length≤1:=by
 have:=fun c=>Jp [c] t
 unfold whoV
 repeat' split
 all_goals (refine⟨?_,?_,?_,?_⟩<;>first|exact this _|simp|omega)
theorem Wb(sym:List UInt8)(hsym:sym≠[])(i sg dg:Nat)(hi:i≤q.length):
  qJ N sym (edE p q i sg dg 0)=zq N sym (edE p q i sg dg 0):=by
 have c36:=XM hN hq [36] i hi;have c43:=XM hN hq [43] i hi;have c45:=XM hN hq [45] i hi;unfold qJ;have hof:∀s,of_ N s=some s:=fun _=>rfl
 have h36:([36].map toByte)=[36]:=rfl;have h43:([43].map toByte)=[43]:=rfl;have h45:([45].map toByte)=[45]:=rfl;simp only[hof,zc,h36,h43,h45,reduceCtorEq,decide_false,cond_false,decide_eq_false hsym,c36,c43,c45]
theorem zdC(i sg:Nat)(hi:i≤q.length)(hs:sg≤5)(h90:¬0<cnt [90] (q.drop i))(h42:¬0<cnt [42] (q.drop i)):
  qJ N [] (edE p q i sg 0 0)=zq N (whoV sg (q.drop i)).1 (edE p q (i+(whoV sg (q.drop i)).2.1) (whoV sg (q.drop i)).2.2.1 (whoV sg (q.drop i)).2.2.2 0):=by
 have c36:=XM hN hq [36] i hi;have c43:=XM hN hq [43] i hi;have c45:=XM hN hq [45] i hi;have l36:=WN (q:=q) [36] i hi;have l43:=WN (q:=q) [43] i hi;have l45:=WN (q:=q) [45] i hi;unfold qJ whoV;rw[if_neg h90,if_neg h42];have hof:∀s,of_ N s=some s:=fun _=>rfl
 have h36:([36].map toByte)=[36]:=rfl;have h43:([43].map toByte)=[43]:=rfl;have h45:([45].map toByte)=[45]:=rfl;simp only[hof,zc,h36,h43,h45,decide_true,cond_true,reduceCtorEq,decide_false,cond_false,c36,c43,c45];rw[zb];by_cases h1:1<cnt [36] (q.drop i)
 ·have e:((i:Int)+((cnt [36] (q.drop i):Nat):Int))=((i+cnt [36] (q.drop i):Nat):Int):=by omega
  have e2:(((cnt [36] (q.drop i):Nat):Int)-1)=((cnt [36] (q.drop i)-1:Nat):Int):=by omega
  rw[if_pos (by omega),if_pos h1,e,e2,zt (by omega) (by omega),za,zt (by omega) (by omega),za,XM hN hq [43] _ l36,zc,XM hN hq [45] _ l36,zc]
 ·rw[if_neg (by omega),if_neg h1,zb];by_cases h2:1<cnt [43] (q.drop i)
  ·have e:((i:Int)+((cnt [43] (q.drop i):Nat):Int))=((i+cnt [43] (q.drop i):Nat):Int):=by omega
   have e2:(((cnt [43] (q.drop i):Nat):Int)-1)=((cnt [43] (q.drop i)-1:Nat):Int):=by omega
   have e3:((sg:Int)+1)=((sg+1:Nat):Int):=by omega
   rw[if_pos (by omega),if_pos h2,e,e2,e3,zt (by omega) (by omega),za,zt (by omega) (by omega),za,zt (by omega) (by omega),za,XM hN hq [45] _ l43,zc]
  ·rw[if_neg (by omega),if_neg h2,zb];by_cases h3:1<cnt [45] (q.drop i)
   ·have e:((i:Int)+((cnt [45] (q.drop i):Nat):Int))=((i+cnt [45] (q.drop i):Nat):Int):=by omega
    have e2:(((cnt [45] (q.drop i):Nat):Int)-1)=((cnt [45] (q.drop i)-1:Nat):Int):=by omega
    have e3:((sg:Int)+1)=((sg+1:Nat):Int):=by omega
    rw[if_pos (by omega),if_pos h3,e,e2,e3,zt (by omega) (by omega),za,zt (by omega) (by omega),za,zt (by omega) (by omega),za]
   ·rw[if_neg (by omega),if_neg h3];rfl
theorem zjP(i sg:Nat)(hi:i≤q.length)(hs:sg≤5):
  whole N (edE p q i sg 0 0)=zq N (whoV sg (q.drop i)).1 (edE p q (i+(whoV sg (q.drop i)).2.1) (whoV sg (q.drop i)).2.2.1 (whoV sg (q.drop i)).2.2.2 0):=by
 have l90:=WN (q:=q) [90] i hi;have l42:=WN (q:=q) [42] i hi;unfold whole;rw[QV hN hq [90] i sg 0 0 hi,zc,zb];by_cases h1:0<cnt [90] (q.drop i)
 ·have:whoV sg (q.drop i)=([90],cnt [90] (q.drop i),sg,cnt [90] (q.drop i)):=by unfold whoV;rw[if_pos h1]
  rw[if_pos (by omega),this];exact Wb hN hq [90] (by simp) _ sg _ l90
 ·have h0:cnt [90] (q.drop i)=0:=by omega
  rw[if_neg (by omega),h0];show(bnd (WL N [42] (edE p q i sg 0 0)) _)=_;rw[QV hN hq [42] i sg 0 0 hi,zc,zb];by_cases h2:0<cnt [42] (q.drop i)
  ·have:whoV sg (q.drop i)=([42],cnt [42] (q.drop i),sg,cnt [42] (q.drop i)):=by unfold whoV;rw[if_neg h1,if_pos h2]
   rw[if_pos (by omega),this];exact Wb hN hq [42] (by simp) _ sg _ l42
  ·have h0:cnt [42] (q.drop i)=0:=by omega
   rw[if_neg (by omega),h0];exact zdC hN hq i sg hi hs h1 h2
end
end Go.Proofs.C06
end
section
set_option maxRecDepth 100000
namespace Go.Proofs.C06
open Go Go.RowKit Go.Vc Go.Am
section
variable {N : Nat} (hN : 1000 < N) {p q : List UInt8} (hq : q.length ≤ 400)
include hN hq
omit hN hq in
theorem zbC(per:Bool)(f i sg dg:Nat)(hf:f≤400)(hd:dg≤1000):jJ N per (f:Int) (edE p q i sg dg 0)=some (decide (0<f)||!per,edE p q i sg (dg+f) f):=by
 unfold jJ;dsimp only;rw[show((dg:Int)+(f:Int))=((dg+f:Nat):Int)by omega,zt (by omega) (by omega),za,zb];by_cases h:0<f
 ·rw[if_pos (by omega),decide_eq_true h];rfl
 ·rw[if_neg (by omega),decide_eq_false h];rfl
theorem zeE(sym:List UInt8)(m i sg dg:Nat)(hi:i≤q.length)(hd:dg≤400):
  ∃ok i' dg' sc',fraction N sym (decide (0<m)) (edE p q i sg dg 0)=some (ok,edE p q i' sg dg' sc')∧i'≤q.length∧zmg sg dg sym m (q.drop i)=if ok=true then fin sg dg' sc' (q.drop i')else none:=by
 have hg:(q.drop i).getD 0 0=q.getD i 0:=by rw[List.getD_eq_getElem?_getD,List.getElem?_drop,List.getD_eq_getElem?_getD];rfl
 unfold fraction zmg;dsimp only;rw[hg,zb];by_cases h0:q.length≤i
 ·have:q.getD i 0=0:=by rw[List.getD_eq_getElem?_getD,List.getElem?_eq_none h0];rfl
  rw[if_pos (by omega),this];exact⟨true,i,dg,0,rfl,hi,rfl⟩
 ·have hlt:i<q.length:=by omega
  have k0:(q.getD i 0=46∨q.getD i 0=86)→∃ok i' dg' sc',qP N sym (decide (0<m)) (edE p q i sg dg 0)=some (ok,edE p q i' sg dg' sc')∧i'≤q.length∧
    (if q.getD i 0=46∧fr sym m ((q.drop i).drop 1)=0 then none else fin sg (dg+fr sym m ((q.drop i).drop 1)) (fr sym m ((q.drop i).drop 1)) ((q.drop i).drop (1+fr sym m ((q.drop i).drop 1))))=if ok=true then fin sg dg' sc' (q.drop i')else none:=fun hor=>by
   have l9:=WN (q:=q) [57] (i+1) (by omega);have hper:decide (((q.getD i 0).toNat:Int)=46)=decide (q.getD i 0=46):=by rw[Bool.eq_iff_iff,decide_eq_true_eq,decide_eq_true_eq];exact Jf (b:=46)
   have done:∀f,i+1+f≤q.length→fr sym m (q.drop (i+1))=f→∀x,x=jJ N (decide (q.getD i 0=46)) (f:Int) (edE p q (i+1+f) sg dg 0)→
     ∃ok i' dg' sc',x=some (ok,edE p q i' sg dg' sc')∧i'≤q.length∧
    (if q.getD i 0=46∧fr sym m ((q.drop i).drop 1)=0 then none else fin sg (dg+fr sym m ((q.drop i).drop 1)) (fr sym m ((q.drop i).drop 1)) ((q.drop i).drop (1+fr sym m ((q.drop i).drop 1))))=if ok=true then fin sg dg' sc' (q.drop i')else none:=fun f hf1 hf2 x hx=>by
    refine⟨_,_,_,_,hx.trans (zbC _ f _ sg dg (by omega) (by omega)),hf1,?_⟩;rw[List.drop_drop,hf2,List.drop_drop,←Nat.add_assoc];by_cases h1:q.getD i 0=46∧f=0
    ·rw[if_pos h1,if_neg];rw[decide_eq_true h1.1,h1.2];simp
    ·rw[if_neg h1,if_pos];rw[Bool.or_eq_true,decide_eq_true_eq,Bool.not_eq_true',decide_eq_false_iff_not];by_cases h2:q.getD i 0=46
     ·left;have:f≠0:=fun h=>h1 ⟨h2,h⟩
      omega
     ·right;exact h2
   have hg1:(q.drop (i+1)).getD 0 0=q.getD (i+1) 0:=by rw[List.getD_eq_getElem?_getD,List.getElem?_drop,List.getD_eq_getElem?_getD]
   unfold qP;dsimp only;rw[jH hlt,za,show((i:Int)+1)=((i+1:Nat):Int)by omega,zt (by omega) (by omega),za,z6,hper];have hrun:=QV (p:=p) hN hq [57] (i+1) sg dg 0 (by omega);have hrun':WL N [57] (editor.mk q ((i+1:Nat):Int) (sg:Int) 5 0 p (dg:Int) ((0:Nat):Int) false false false false false ((szN p:Nat):Int))=_:=hrun;rw[hrun',zc,zb];unfold Z7;by_cases h2:0<cnt [57] (q.drop (i+1))
   ·rw[if_pos (by omega),cond_true];exact done _ l9 (by unfold fr;rw[if_pos (.inl h2)]) _ rfl
   ·have h20:cnt [57] (q.drop (i+1))=0:=by omega
    rw[if_neg (by omega),zb];by_cases h3:0<m
    ·rw[if_pos h3];exact done _ l9 (by unfold fr;rw[if_pos (.inr h3)]) _ rfl
    ·rw[if_neg h3,zg,h20];by_cases h4:sym=[]
     ·rw[if_pos h4,zb];unfold Z6;by_cases h5:i+1<q.length
      ·dsimp only;rw[if_pos (by omega),show of_ N [90,42]=some [90,42]from rfl,zc,Nat.add_zero,jH h5,za,z6,KF,zc];cases h6:([90,42]:List UInt8).contains (q.getD (i+1) 0)with
       |false=>rw[cond_false];refine done 0 (by omega) ?_ _ rfl;unfold fr;rw[if_neg (by omega),if_neg (fun h=>h h4),hg1,if_neg];rintro(h|h)<;>rw[h]at h6<;>cases h6
       |true=>
        have h7:q.getD (i+1) 0=90∨q.getD (i+1) 0=42:=by simpa using h6
        have hsub:Vc.sub q ((i+1:Nat):Int) ((i+1+1:Nat):Int)=[q.getD (i+1) 0]:=by rw[zjc,List.drop_take,show i+1+1-(i+1)=1 by omega,ye h5];rfl
        have hr2:WL N [q.getD (i+1) 0] (editor.mk q ((i+1:Nat):Int) (sg:Int) 5 0 p (dg:Int) ((0:Nat):Int) false false false false false ((szN p:Nat):Int))=_:=QV (p:=p) hN hq [q.getD (i+1) 0] (i+1) sg dg 0 (by omega);rw[cond_true,show(((i+1:Nat):Int)+1)=((i+1+1:Nat):Int)by omega,zt (by omega) (by omega),za,zG.2 ⟨by omega,by omega,by omega⟩,za,hsub,hr2,zc];refine done _ (WN _ _ (by omega)) ?_ _ rfl;unfold fr;rw[if_neg (by omega),if_neg (fun h=>h h4),hg1,if_pos h7]
      ·dsimp only;rw[if_neg (by omega),cond_false];refine done 0 (by omega) ?_ _ rfl;unfold fr;rw[if_neg (by omega),if_neg (fun h=>h h4),if_neg];rw[hg1,List.getD_eq_getElem?_getD,List.getElem?_eq_none (by omega)];rintro(h|h)<;>cases h
     ·rw[if_neg h4,Nat.add_zero];have hr2:=QV (p:=p) hN hq sym (i+1) sg dg 0 (by omega);rw[hr2,zc];refine done _ (WN _ _ (by omega)) ?_ _ rfl;unfold fr;rw[if_neg (by omega),if_pos h4]
  rw[if_neg (by omega),jH hlt,za,z6,zg];by_cases h1:q.getD i 0=46
  ·rw[if_pos (by rw[h1];rfl),if_pos (.inl h1)];exact k0 (.inl h1)
  ·rw[if_neg (show¬(((q.getD i 0).toNat:Int)=46)from fun e=>h1 (Jf.1 e)),za,zg];by_cases h2:q.getD i 0=86
   ·rw[if_pos (by rw[h2];rfl),if_pos (.inr h2)];exact k0 (.inr h2)
   ·rw[if_neg (show¬(((q.getD i 0).toNat:Int)=86)from fun e=>h2 (Jf.1 e)),if_neg (by rintro(h|h);exact h1 h;exact h2 h)];exact⟨true,i,dg,0,rfl,hi,rfl⟩
end
def zcz(p:List UInt8)(v:EdV):EdV:=if p.getD 0 0=44∨p.getD (p.length-1) 0=44 then none else v
theorem zeO{N:Nat}{p q:List UInt8}(hp0:p≠[])(hp:p.length≤400)(ok:Bool)(b0:Shape)(i sg dg sc:Nat):
  Res p (JS N p ok b0 (edE p q i sg dg sc)) (zcz p (if ok=true∧i=q.length∧sg<2∧0<dg then some (dg,sc,decide (0<sg))else none)):=by
 have hl:0<p.length:=List.length_pos_iff.2 hp0;have hx:=jH hl;have hb:=z6 p 0;rw[show((0:Nat):Int)=0 from rfl]at hx hb;have no:∀{v:EdV}{sh:Shape},v=none→Res p (some (sh,false)) (zcz p v):=fun h=>by
  subst h;have:zcz p none=none:=by unfold zcz;split<;>rfl
  rw[this];exact Res.no
 unfold JS;dsimp only;cases ok with
 |false=>rw[cond_false];exact no (by rw[if_neg (by simp)])
 |true=>
  rw[cond_true,zb];by_cases h1:i=q.length
  ·rw[if_pos (by omega),zb];by_cases h2:sg<2
   ·rw[if_pos (by omega),zb];by_cases h3:0<dg
    ·rw[if_pos (by omega),hx,za,zg,hb,if_pos (show true=true∧i=q.length∧sg<2∧0<dg from⟨rfl,h1,h2,h3⟩)];unfold zcz;by_cases h4:p.getD 0 0=44
     ·rw[if_pos (by rw[h4];rfl),if_pos (.inl h4)];exact Res.no
     ·rw[if_neg (show¬(((p.getD 0 0).toNat:Int)=44)from fun e=>h4 (Jf.1 e)),show((p.length:Int)-1)=((p.length-1:Nat):Int)by omega,zt (by omega) (by omega),za,jH (by omega),za,z6];by_cases h5:p.getD (p.length-1) 0=44
      ·rw[decide_eq_true (show(((p.getD (p.length-1) 0).toNat:Int)=44)by rw[h5];rfl),if_pos (.inr h5)];exact Res.no
      ·rw[decide_eq_false (show¬(((p.getD (p.length-1) 0).toNat:Int)=44)from fun e=>h5 (Jf.1 e)),if_neg (by rintro(h|h);exact h4 h;exact h5 h)];refine Res.yes ?_;unfold K3;congr 1;rw[Bool.eq_iff_iff];simp
    ·rw[if_neg (by omega)];exact no (by rw[if_neg (fun h=>h3 h.2.2.2)])
   ·rw[if_neg (by omega)];exact no (by rw[if_neg (fun h=>h2 h.2.2.1)])
  ·rw[if_neg (by omega)];exact no (by rw[if_neg (fun h=>h1 h.2.1)])
theorem YB{N:Nat}(hN:1000<N){p q:List UInt8}(hp0:p≠[])(hp:p.length≤400)(hq:q.length≤400)(b0:Shape)(i sg:Nat)(hi:i≤q.length)(hs:sg≤4):
  Res p (JT N p b0 (edE p q i sg 0 0)) (zcz p (mon sg (q.drop i))):=by
 have rest:∀j,j≤q.length→Res p (bnd (whole N (edE p q j sg 0 0)) fun rr4=>bnd (fraction N rr4.1 rr4.2.1 rr4.2.2) fun rr5=>
   chk (zu rr5.2.at_ ((rr5.2.s).length:Int) ((rr5.2.s).length))<|
   cond (decide ((yF rr5.2.s rr5.2.at_)=([43]:List UInt8))) (
    yS N p rr5.1 true b0 rr5.2) (
    yS N p rr5.1 (decide ((yF rr5.2.s rr5.2.at_)=([45]:List UInt8))) b0 rr5.2)) (zcz p (who sg (q.drop j))):=fun j hj=>by
  obtain⟨w1,w2,w3,w4⟩:=zi4 sg (q.drop j);rw[List.length_drop]at w1;rw[zjP hN hq j sg hj (by omega),zfj,List.drop_drop];generalize whoV sg (q.drop j)=v at*
  rw[zfi hN hq _ _ _ _ (by omega) (by omega),zc];unfold nin;have l9:=WN (q:=q) [57] (j+v.2.1) (by omega);obtain⟨ok,i',dg',sc',f1,f2,f3⟩:=zeE (p:=p) hN hq v.1 (cnt [57] (q.drop (j+v.2.1))) (j+v.2.1+cnt [57] (q.drop (j+v.2.1))) v.2.2.1 (v.2.2.2+cnt [57] (q.drop (j+v.2.1))) l9 (by omega);rw[f1,zc,List.drop_drop,f3];dsimp only;have hl:(q.drop i').length=q.length-i':=List.length_drop ..;have hsg:v.2.2.1≤5:=by omega
  generalize v.2.2.1=s at*
  have K:=fun i sg=>zeO (N:=N) (p:=p) (q:=q) hp0 hp ok b0 i sg dg' sc'
  have one:∀c:UInt8,(c=43∨c=45)→q.drop i'=[c]→Res p (yS N p ok true b0 (edE p q i' s dg' sc')) (zcz p (if ok=true then fin s dg' sc' (q.drop i')else none)):=fun c hc he=>by
   unfold yS;dsimp only;rw[cond_true,show((s:Int)+1)=((s+1:Nat):Int)by omega,show((i':Int)+1)=((i'+1:Nat):Int)by omega,zt (by omega) (by omega),za,zt (by omega) (by omega),za];have:=K (i'+1) (s+1);have hor:[c]=[43]∨[c]=[45]:=by rcases hc with rfl|rfl<;>simp
   rw[he]at hl⊢;unfold fin;rw[if_pos hor];have e:i'+1=q.length:=by simp at hl;omega
   rw[show(if ok=true∧i'+1=q.length∧s+1<2∧0<dg' then some (dg',sc',decide (0<s+1))else none)=(if ok=true then if s+1<2∧0<dg' then some (dg',sc',true)else none else none)by
    by_cases a:ok=true<;>by_cases b:s+1<2∧0<dg'<;>simp[a,b,e];all_goals first|(intro h1 h2;exact absurd ⟨h1,h2⟩ b)|skip]at this
   exact this
  rw[zG.2 ⟨by omega,by omega,by omega⟩,za,zdk,zb];by_cases g1:q.drop i'=[43]
  ·rw[if_pos g1];exact one 43 (.inl rfl) g1
  ·rw[if_neg g1];by_cases g2:q.drop i'=[45]
   ·rw[decide_eq_true g2];exact one 45 (.inr rfl) g2
   ·rw[decide_eq_false g2];unfold yS;rw[cond_false];have:=K i' s;unfold fin;rw[if_neg (show¬(q.drop i'=[43]∨q.drop i'=[45])by rintro(h|h);exact g1 h;exact g2 h)];have e:q.drop i'=[]↔i'=q.length:=by rw[List.drop_eq_nil_iff];omega
    rw[show(if ok=true∧i'=q.length∧s<2∧0<dg' then some (dg',sc',decide (0<s))else none)=(if ok=true then if q.drop i'=[]∧s<2∧0<dg' then some (dg',sc',decide (0<s))else none else none)by
     by_cases a:ok=true<;>simp[a,e]]at this
    exact this
 unfold JT mon;rw[zhw hN hq 36 i sg 0 0 hi,zc];by_cases h:cnt [36] (q.drop i)=1
 ·rw[if_pos h,if_pos h,List.drop_drop];have:=WN (q:=q) [36] i hi;exact rest (i+1) (by omega)
 ·rw[if_neg h,if_neg h];exact rest i hi
theorem zbK{N:Nat}(hN:1000<N){p body:List UInt8}(hp0:p≠[])(hp:p.length≤400)(hb:body.length≤400)(ha:∀c∈body,c.toNat<128)(b0:Shape)(sg:Nat)(hs:sg≤3)(go)(b2:List (List UInt8))(t:Int):
  Res p (jK N go p body t t b0 (edE p [] 0 sg 0 0) b2) (zcz p (sgn sg (Z3 body))):=by
 have hq:=VL body;generalize hqq:Z3 body=q at*
 have hq':q.length≤400:=by omega
 unfold jK sgn;dsimp only;rw[zb,if_neg (by omega),zcu hN hb ha,zc,hqq];have s2:=zhv (p:=p) hN hq' 43 45 0 sg 0 0 (by omega);have s2':Y5 N [43,45] (editor.mk q ((0:Nat):Int) (sg:Int) 5 0 p ((0:Nat):Int) ((0:Nat):Int) false false false false false ((szN p:Nat):Int))=_:=s2;rw[s2',zc,List.drop_zero];have c43:=Jp [43] q;have c45:=Jp [45] q;have e1:((sg:Int)+1)=((sg+1:Nat):Int):=by omega
 by_cases h1:cnt [43] q=1
 ·rw[if_pos h1,if_pos h1];dsimp only;rw[cond_true,e1,zt (by omega) (by omega),za];exact YB hN hp0 hp hq' b0 1 (sg+1) (by omega) (by omega)
 ·rw[if_neg h1,if_neg h1];by_cases h2:cnt [45] q=1
  ·rw[if_pos h2,if_pos h2];dsimp only;rw[cond_true,e1,zt (by omega) (by omega),za];exact YB hN hp0 hp hq' b0 1 (sg+1) (by omega) (by omega)
  ·rw[if_neg h2,if_neg h2];dsimp only;rw[cond_false];exact YB hN hp0 hp hq' b0 0 sg (by omega) (by omega)
theorem zig(p:List UInt8)(a b:UInt8):Lib.hasSuffix p [a,b]=decide (Y1 p=[a,b]):=by
 unfold Lib.hasSuffix Y1;rw[Bool.eq_iff_iff,decide_eq_true_eq,List.isSuffixOf_iff_suffix];constructor
 ·rintro⟨t,rfl⟩;rw[show(t++[a,b]).length-2=t.length by simp];simp
 ·intro h;exact⟨_,by rw[←h];exact List.take_append_drop _ _⟩
theorem zix{N:Nat}(hN:1000<N){p:List UInt8}(hp:p.length≤400)(hp0:p≠[])(ha:∀c∈p,c.toNat<128):Res p (zeP N p) (edS p):=by
 have hc:=List.count_le_length (a:=(86:UInt8)) (l:=p);obtain⟨n,rfl⟩:∃n,N=n+3:=⟨N-3,by omega⟩
 unfold zeP;show Res p (bnd (some ((p.count 86:Nat):Int)) fun rr=>_) _;have hz:((p.length:Int)-((p.count 86:Nat):Int))=((szN p:Nat):Int):=by unfold szN;omega
 rw[zc,hz];have hzl:szN p≤400:=by unfold szN;omega
 rw[zt (by omega) (by omega),za];have hT:(p.take (p.length-2)).length≤400:=by rw[List.length_take];omega
 have haT:∀c∈p.take (p.length-2),c.toNat<128:=fun c h=>ha c (List.mem_of_mem_take h)
 have eS:edS p=zcz p (zoe p):=rfl;rw[eS];unfold zoe;show Res p (jK (n+3) (jX (n+3) (n+2)) p p 2 0 _ (edE p [] 0 0 0 0) [[67,82],[68,66]]) _;have cs:∀a b:UInt8,Yk p [a,b]=some (if Y1 p=[a,b]then p.take (p.length-2)else p,decide (Y1 p=[a,b])):=fun a b=>by unfold Yk Lib.trimSuffix;rw[decide_eq_true (show p.length≤9223372036854775807 by omega),za,zig];by_cases h:Y1 p=[a,b]<;>simp[h]
 have step:∀(go)(body:List UInt8)(k:Nat)(a b:UInt8)(sg:Nat)(b0:Shape),k<2→atS [[67,82],[68,66]] (k:Int)=[a,b]→sg≤3→
   jK (n+3) go p body 2 (k:Int) b0 (edE p [] 0 sg 0 0) [[67,82],[68,66]]=
    if Y1 p=[a,b]then go p (p.take (p.length-2)) 2 ((k+1:Nat):Int) b0 (edE p [] 0 (sg+1) 0 0) [[67,82],[68,66]]else go p body 2 ((k+1:Nat):Int) b0 (edE p [] 0 sg 0 0) [[67,82],[68,66]]:=fun go body k a b sg b0 hk hat hs=>by
  unfold jK;dsimp only;rw[zb,if_pos (by omega),show zn (k:Int) ([[67,82],[68,66]]:List (List UInt8)).length=true from jH hk,za,za,hat,cs,zc];dsimp only;rw[zb];by_cases h:Y1 p=[a,b]
  ·rw[if_pos h,if_pos h,if_pos h,show((sg:Int)+1)=((sg+1:Nat):Int)by omega,show((k:Int)+1)=((k+1:Nat):Int)by omega,zt (by omega) (by omega),za,zt (by omega) (by omega),za]
  ·rw[if_neg h,if_neg h,show((k:Int)+1)=((k+1:Nat):Int)by omega,zt (by omega) (by omega),za]
 have s0:=step (jX (n+3) (n+2)) p 0 67 82 0 (Shape.mk 0 0 [] 0 0 false false false false false 0) (by omega) rfl (by omega);rw[show((0:Nat):Int)=0 from rfl]at s0;have fin2:=fun body hb hab sg hs=>zbK (N:=n+3) (p:=p) (body:=body) hN hp0 hp hb hab (Shape.mk 0 0 [] 0 0 false false false false false 0) sg hs (jX (n+3) n) [[67,82],[68,66]] 2
 rw[s0];by_cases h1:Y1 p=[67,82]
 ·rw[if_pos h1,if_pos (.inl h1)];show Res p (jK (n+3) (jX (n+3) (n+1)) p (p.take (p.length-2)) 2 ((0+1:Nat):Int) _ (edE p [] 0 (0+1) 0 0) [[67,82],[68,66]]) _;rw[step (jX (n+3) (n+1)) (p.take (p.length-2)) (0+1) 68 66 (0+1) _ (by omega) rfl (by omega),if_neg (by rw[h1];decide)];exact fin2 _ hT haT 1 (by omega)
 ·rw[if_neg h1];show Res p (jK (n+3) (jX (n+3) (n+1)) p p 2 ((0+1:Nat):Int) _ (edE p [] 0 0 0 0) [[67,82],[68,66]]) _;rw[step (jX (n+3) (n+1)) p (0+1) 68 66 0 _ (by omega) rfl (by omega)];by_cases h2:Y1 p=[68,66]
  ·rw[if_pos h2,if_pos (.inr h2)];exact fin2 _ hT haT 1 (by omega)
  ·rw[if_neg h2,if_neg (by rintro(h|h);exact h1 h;exact h2 h)];exact fin2 _ hp ha 0 (by omega)
end Go.Proofs.C06
end
section
set_option maxRecDepth 100000
namespace Go.Proofs.C06
open Go Go.RowKit Go.Vc Go.Am
theorem zgw:∀l,(flat l).length=tot l
 |[]=>rfl
 |(c,m)::l=>by show(List.replicate m c++flat l).length=m+tot l;rw[List.length_append,List.length_replicate,zgw l]
theorem zbq:∀(n:Nat)(s:List UInt8)(l:List (UInt8×Nat)),s.length≤n→items s=some l→∀x∈l,Vv.contains x.1=true
 |0,s,l,hn,h,x,hx=>by have:s=[]:=List.eq_nil_of_length_eq_zero (by omega);subst this;rw[items]at h;cases h;cases hx
 |n+1,[],l,hn,h,x,hx=>by rw[items]at h;cases h;cases hx
 |n+1,c::r,l,hn,h,x,hx=>by
  rw[zbr]at h;split at h
  ·rename_i hc;rcases hr:rep r with _|⟨m,z⟩
   ·rw[hr]at h;cases h
   ·rw[hr]at h;simp only[]at h;rcases hi:items (r.drop z)with _|l'
    ·rw[hi]at h;cases h
    ·rw[hi]at h;cases h;rcases List.mem_cons.1 hx with rfl|hx
     ·exact hc
     ·exact zbq n (r.drop z) l' (by rw[List.length_drop];simp at hn;omega) hi x hx
  ·cases h
theorem zgv:∀(l:List (UInt8×Nat)),(∀x∈l,Vv.contains x.1=true)→∀c∈flat l,Vv.contains c=true
 |[],_,c,hc=>by cases hc
 |(a,m)::l,h,c,hc=>by
  rcases List.mem_append.1 hc with h1|h1
  ·rw[(List.mem_replicate.1 h1).2];exact h (a,m) (by simp)
  ·exact zgv l (fun x hx=>h x (by simp[hx])) c h1
theorem zmm{s p:List UInt8}{e:Int}(h:exR 0 [] (items s)=(p,e))(he:e=0):p≠[]∧p.length≤256∧∀c∈p,Vv.contains c=true:=by
 subst he;rcases hi:items s with _|l
 ·rw[hi]at h;cases h
 ·rw[hi]at h;unfold exR at h;simp only[Nat.zero_add,List.nil_append]at h;split at h
  ·cases h
  ·split at h
   ·cases h
   ·cases h;rename_i h1 h2;have:=zgw l;refine⟨fun e=>?_,by omega,zgv l (zbq s.length s l (Nat.le_refl _) hi)⟩;rw[e]at this;simp at this;omega
theorem zjZ{c:UInt8}(h:Vv.contains c=true):c.toNat<128:=by unfold Vv at h;simp only[List.contains_cons,List.contains_nil,Bool.or_false,Bool.or_eq_true,beq_iff_eq]at h;rcases h with h|h|h|h|h|h|h|h|h|h|h|h|h|h|h|h|h|h|h<;>subst h<;>decide
def zpq(c:UInt8):Bool:=([65,88]:List UInt8).contains c
def zaH:Shape:=Shape.mk 0 0 [] 0 0 false false false false false 0
def zhp(p:List UInt8):Option Shape:=if cnt [65] p=p.length then some (Shape.mk 1 0 p 0 0 false false false false false (p.length:Int))else if p.countP zpq=0 then none else if cnt [65,88,57] p=p.length then some (Shape.mk 2 0 p 0 0 false false false false false (p.length:Int))else if cnt [65,88,57,66,48,47] p=p.length then some (Shape.mk 3 0 p 0 0 false false false false false (p.length:Int))else none
def zgg(p:List UInt8)(sh:Shape)(d:Nat):Shape×Int:=if 18<d+p.count 80 then(zaH,3)else(sh,0)
def zlK(p:List UInt8):Shape×Int:=
 match zhp p with
 |some sh=>(sh,0)
 |none=>match zba (unS p)with
  |some (d,sc)=>zgg p (JA p (sgS p) d sc) d
  |none=>match edS p with
   |some (d,sc,sg)=>zgg p (K3 p d sc sg) d
   |none=>(zaH,4)
theorem znW{r:List UInt8}{d:Nat}{sc:Int}(h:zba r=some (d,sc)):d≤r.length:=by rcases numS_form h with⟨c,f,_,rfl,rfl,_⟩|⟨a,b,c,_,_,rfl,rfl,_⟩|⟨c,k,e,_,_,_,rfl,rfl,_⟩<;>simp<;>omega
theorem zoS(p:List UInt8):(unS p).length≤p.length:=by
 unfold unS;split
 ·rw[List.length_drop];omega
 ·exact Nat.le_refl _
theorem zmk{sg dg sc:Nat}{t:List UInt8}{d c:Nat}{s:Bool}(h:fin sg dg sc t=some (d,c,s)):d=dg:=by
 unfold fin at h;split at h
 ·split at h<;>cases h;rfl
 ·split at h<;>cases h;rfl
theorem zp4(sym:List UInt8)(m:Nat)(t:List UInt8):fr sym m t≤t.length:=by
 unfold fr
 repeat' split
 all_goals first|exact Jp _ _|exact Nat.zero_le _
theorem zn7{sg dg m:Nat}{sym t:List UInt8}{d c:Nat}{s:Bool}(h:zmg sg dg sym m t=some (d,c,s)):d≤dg+t.length:=by
 unfold zmg at h;have hf:=zp4 sym m (t.drop 1);rw[List.length_drop]at hf;split at h
 ·split at h
  ·cases h
  ·have:=zmk h;omega
 ·have:=zmk h;omega
theorem zpm{sg dg:Nat}{sym t:List UInt8}{d c:Nat}{s:Bool}(h:nin sg dg sym t=some (d,c,s)):d≤dg+t.length:=by
 unfold nin at h;have:=zn7 h;have:=Jp [57] t;rw[List.length_drop]at*
 omega
theorem zh4{sg:Nat}{t:List UInt8}{d c:Nat}{s:Bool}(h:mon sg t=some (d,c,s)):d≤t.length:=by
 have w:∀t,who sg t=some (d,c,s)→d≤t.length:=fun t h=>by rw[zfj]at h;have h1:=zpm h;obtain⟨h2,h3,_,_⟩:=zi4 sg t;rw[List.length_drop]at h1;omega
 unfold mon at h;split at h
 ·have:=w _ h;rw[List.length_drop]at this;omega
 ·exact w _ h
theorem zlj{sg:Nat}{t:List UInt8}{d c:Nat}{s:Bool}(h:sgn sg t=some (d,c,s)):d≤t.length:=by
 unfold sgn at h;split at h
 ·have:=zh4 h;rw[List.length_drop]at this;omega
 ·split at h
  ·have:=zh4 h;rw[List.length_drop]at this;omega
  ·exact zh4 h
theorem zpy{p:List UInt8}{d c:Nat}{s:Bool}(h:edS p=some (d,c,s)):d≤p.length:=by
 unfold edS zoe at h;split at h
 ·cases h
 ·split at h
  ·have:=zlj h;have h2:=VL (p.take (p.length-2));rw[List.length_take]at h2;omega
  ·have:=zlj h;have h2:=VL p;omega
theorem YS(cs:List UInt8):∀l:List UInt8,(0≤Lib.indexAny l cs)↔l.countP (cs.contains ·)≠0
 |[]=>by simp[Lib.indexAny]
 |b::l=>by
  have ih:=YS cs l;have hg:=Lib.indexAny_ge cs l;unfold Lib.indexAny;rw[List.countP_cons];by_cases hb:cs.contains b=true
  ·rw[if_pos hb,if_pos hb];constructor<;>intro _<;>omega
  ·have hb':cs.contains b=false:=by simpa using hb
   rw[if_neg hb,if_neg hb];by_cases hm:Lib.indexAny l cs= -1
   ·rw[if_pos (by rw[hm];rfl)];have:¬(0≤Lib.indexAny l cs):=by omega
    rw[ih]at this;constructor
    ·intro h;omega
    ·intro h;exact absurd (by simpa using h) this
   ·rw[if_neg (by simpa using hm)];have h0:0≤Lib.indexAny l cs:=by omega
    have:=ih.1 h0;constructor
    ·intro _;simpa using this
    ·intro _;omega
theorem zk8{N:Nat}(hN:1000<N){p:List UInt8}(hp:p.length≤400)(ha:∀c∈p,c.toNat<128):∃sh,zja N p=some (sh,(zhp p).isSome)∧∀x,zhp p=some x→sh=x:=by
 have C:=fun set=>Jb (N:=N) (s:=p) (set:=set) (f:=0) (by omega) (by omega) (by omega)
 rw[show((0:Nat):Int)=0 from rfl,List.drop_zero]at C;have hof:∀s,of_ N s=some s:=fun _=>rfl
 unfold zja zhp;rw[hof,zc,C,zc,zb];by_cases h1:cnt [65] p=p.length
 ·rw[if_pos (by omega),if_pos h1];exact⟨_,rfl,fun _ h=>by cases h;rfl⟩
 ·rw[if_neg (by omega),if_neg h1];have hany:Zf p [65,88]=some (decide (p.countP zpq≠0)):=by unfold Zf;rw[decide_eq_true (show p.length<4294967281 by omega),show QK p=true from List.all_eq_true.2 (fun c hc=>decide_eq_true (ha c hc))];rw[show(true&&(decide (([65,88]:List UInt8).length<4294967281)&&(true&&QK [65,88])))=true from rfl,za];congr 1;unfold Lib.containsAny;rw[Bool.eq_iff_iff,decide_eq_true_eq,decide_eq_true_eq];exact YS [65,88] p
  rw[hany,zc,zg];by_cases h2:p.countP zpq=0
  ·rw[if_neg (fun h=>h h2),if_pos h2];exact⟨_,rfl,fun _ h=>by cases h⟩
  ·rw[if_pos h2,if_neg h2,hof,zc,C,zc,zb];by_cases h3:cnt [65,88,57] p=p.length
   ·rw[if_pos (by omega),if_pos h3];exact⟨_,rfl,fun _ h=>by cases h;rfl⟩
   ·rw[if_neg (by omega),if_neg h3,hof,zc,C,zc,zb];by_cases h4:cnt [65,88,57,66,48,47] p=p.length
    ·rw[if_pos (by omega),if_pos h4];exact⟨_,rfl,fun _ h=>by cases h;rfl⟩
    ·rw[if_neg (by omega),if_neg h4];exact⟨_,rfl,fun _ h=>by cases h⟩
theorem zkR{N:Nat}(hN:1000<N){s:List UInt8}(hs:s.length≤400):zdy N s=some (if(exR 0 [] (items s)).2=0 then zlK (exR 0 [] (items s)).1 else(zaH,(exR 0 [] (items s)).2)):=by
 unfold zdy;rw[zi0 hN hs,zc,zg];by_cases h0:(exR 0 [] (items s)).2=0
 ·rw[if_pos h0,if_pos h0];obtain⟨hp0,hpl,hsy⟩:=zmm (show exR 0 [] (items s)=((exR 0 [] (items s)).1,(exR 0 [] (items s)).2)from rfl) h0;generalize (exR 0 [] (items s)).1=p at*
  have ha:∀c∈p,c.toNat<128:=fun c hc=>zjZ (hsy c hc)
  have hP:=List.count_le_length (a:=(80:UInt8)) (l:=p);have lim:∀(sh:Shape)(d:Nat),d≤p.length→sh.Digits=(d:Int)→(bnd (Jl p [80]) fun rr2=>chk (zd .i64 (sh.Digits+rr2))<|cond (decide (18<(sh.Digits+rr2))) (some (zaH,(3:Int))) (some (sh,0)))=some (zgg p sh d):=fun sh d hd he=>by
   show(bnd (some ((p.count 80:Nat):Int)) fun rr2=>_)=_;rw[zc,he,show((d:Int)+((p.count 80:Nat):Int))=((d+p.count 80:Nat):Int)by omega,zt (by omega) (by omega),za,zb];unfold zgg;by_cases h:18<d+p.count 80
   ·rw[if_pos (by omega),if_pos h]
   ·rw[if_neg (by omega),if_neg h]
  obtain⟨sh1,t1,t2⟩:=zk8 hN (p:=p) (by omega) ha;rw[t1,zc];unfold zlK;cases h1:zhp p with
  |some x=>
   have:=t2 x h1;subst this;have hd:sh1.Digits=((0:Nat):Int)∧p.count 80=0:=by
    have h80:∀set:List UInt8,set.contains 80=false→cnt set p=p.length→p.count 80=0:=fun set h h'=>by
     refine List.count_eq_zero.2 fun hm=>?_
     obtain⟨j,hj,he⟩:=List.mem_iff_getElem.1 hm;have hmem:(80:UInt8)∈p.take (cnt set p):=by rw[h',List.take_length];exact hm
     have:=J9 set p _ (Nat.le_refl _) 80 hmem;rw[this]at h;cases h
    unfold zhp at h1;split at h1
    ·rename_i h;cases h1;exact⟨rfl,h80 _ rfl h⟩
    ·split at h1
     ·cases h1
     ·split at h1
      ·rename_i h;cases h1;exact⟨rfl,h80 _ rfl h⟩
      ·split at h1
       ·rename_i h;cases h1;exact⟨rfl,h80 _ rfl h⟩
       ·cases h1
   have:=lim sh1 0 (by omega) hd.1;have hl:zgg p sh1 0=(sh1,0):=by unfold zgg;rw[hd.2,if_neg (by omega)]
   rw[hl]at this;exact this
  |none=>
   obtain⟨sh2,n1,n2⟩:=zfZ hN (p:=p) (by omega);rw[zkh]at n1 n2;dsimp only[Option.isSome];rw[cond_false,n1,zc];cases h2:zba (unS p)with
   |some x=>obtain⟨d,sc⟩:=x;have:=n2 d sc h2;subst this;have:=zoS p;have:=znW h2;exact lim (JA p (sgS p) d sc) d (by omega) rfl
   |none=>
    obtain⟨sh3,e1,e2⟩:=zix hN (p:=p) (by omega) hp0 ha;dsimp only[Option.isSome];rw[cond_false,e1,zc];cases h3:edS p with
    |some x=>obtain⟨d,sc,sg⟩:=x;have:=e2 d sc sg h3;subst this;have:=zpy h3;exact lim (K3 p d sc sg) d this rfl
    |none=>rfl
 ·rw[if_neg h0,if_neg h0];rfl
end Go.Proofs.C06
end
section
set_option maxRecDepth 100000
namespace Go.Proofs.C06
open Go Go.RowKit Go.Vc Go.Am
end Go.Proofs.C06
end
section
set_option maxRecDepth 100000
namespace Go.Proofs.C06
open Go Go.RowKit Go.Vc Go.Am
def sizeV(s:Shape):Int:=if s.Category=0 then s.Size else if s.Category≠4 then(szN s.Picture:Int)else if s.Usage=1 then s.Digits/2+1 else if s.Usage=2 then(if s.Digits≤4 then 2 else if s.Digits≤9 then 4 else 8)else if s.Separate=true then s.Digits+1 else s.Digits
def YL(s:Shape):Int:=if 5<s.Category∨2<s.Usage then 12 else if s.Category=0∧(s.Size<0∨1048576<s.Size)then 1 else if s.Category=4∧(s.Digits<1∨18<s.Digits)then 1 else 0
theorem zh1{N:Nat}{s:Shape}(h4:s.Category=4)(hd:1≤s.Digits∧s.Digits≤18):za9 N s=some (sizeV s):=by
 unfold za9 sizeV Q0 QZ;rw[if_neg (by omega),if_neg (by omega),zb];by_cases h1:s.Usage=1
 ·have:zd .i64 (s.Digits/2)=true:=zt (by omega) (by omega);have h0:zE s.Digits=true:=decide_eq_true (by omega);rw[if_pos h1,if_pos h1,this,h0,zt (by omega) (by omega)];rfl
 ·rw[if_neg h1,if_neg h1,zb];by_cases h2:s.Usage=2
  ·rw[if_pos h2,if_pos h2,zb];by_cases h3:s.Digits≤4
   ·rw[if_pos h3,if_pos h3]
   ·rw[if_neg h3,if_neg h3,zb,if_pos h2,zb];by_cases h5:s.Digits≤9
    ·rw[if_pos h5,if_pos h5]
    ·rw[if_neg h5,if_neg h5,zb,if_pos h2]
  ·rw[if_neg h2,if_neg h2,cond_false,zb,if_neg h2,cond_false,zb,if_neg h2];cases s.Separate with
   |true=>rw[cond_true,zt (by omega) (by omega),za,if_pos rfl]
   |false=>rw[cond_false,if_neg (by simp)]
theorem zkP{N:Nat}{s:Shape}(hp:s.Picture.length≤400):∃v,zjL N s=some (v,YL s)∧(YL s=0→v=sizeV s):=by
 have hc:=List.count_le_length (a:=(86:UInt8)) (l:=s.Picture);unfold zjL Vl QL YL;rw[zb];by_cases h1:5<s.Category
 ·rw[if_pos h1,cond_true,if_pos (.inl h1)];exact⟨_,rfl,fun h=>by cases h⟩
 ·rw[if_neg h1,zb];by_cases h2:2<s.Usage
  ·rw[if_pos h2,if_pos (.inr h2)];exact⟨_,rfl,fun h=>by cases h⟩
  ·rw[if_neg h2,if_neg (by rintro(h|h);exact h1 h;exact h2 h),zb];by_cases h3:s.Category=0
   ·rw[if_pos h3,zb];by_cases h4:s.Size<0
    ·rw[if_pos h4,cond_true,if_pos ⟨h3,.inl h4⟩];exact⟨_,rfl,fun h=>by cases h⟩
    ·rw[if_neg h4,zb];by_cases h5:1048576<s.Size
     ·rw[if_pos h5,if_pos ⟨h3,.inr h5⟩];exact⟨_,rfl,fun h=>by cases h⟩
     ·rw[if_neg h5,if_neg (fun h=>by rcases h.2 with h|h;exact h4 h;exact h5 h),if_neg (fun h=>by omega),zb,if_pos h3];exact⟨_,rfl,fun _=>by unfold sizeV;rw[if_pos h3]⟩
   ·rw[if_neg h3,cond_false,zb,if_neg h3,if_neg (fun h=>h3 h.1),zg];by_cases h4:s.Category=4
    ·rw[if_pos h4,zb];by_cases h5:s.Digits<1
     ·rw[if_pos h5,if_pos ⟨h4,.inl h5⟩];exact⟨_,rfl,fun h=>by cases h⟩
     ·rw[if_neg h5,zb];by_cases h6:18<s.Digits
      ·rw[if_pos h6,if_pos ⟨h4,.inr h6⟩];exact⟨_,rfl,fun h=>by cases h⟩
      ·rw[if_neg h6,if_neg (fun h=>by rcases h.2 with h|h;exact h5 h;exact h6 h),zh1 h4 ⟨by omega,by omega⟩,zc];exact⟨_,rfl,fun _=>rfl⟩
    ·rw[if_neg h4,if_neg (fun h=>h4 h.1)];show∃v,(bnd (some ((s.Picture.count 86:Nat):Int)) fun rr=>_)=_∧_;have hz:((s.Picture.length:Int)-((s.Picture.count 86:Nat):Int))=((szN s.Picture:Nat):Int):=by unfold szN;omega
     have hzl:szN s.Picture≤400:=by unfold szN;omega
     rw[zc,hz,zt (by omega) (by omega),za];exact⟨_,rfl,fun _=>by unfold sizeV;rw[if_neg h3,if_pos h4]⟩
end Go.Proofs.C06
end
section
set_option maxRecDepth 100000
namespace Go.Proofs.C06
open Go Go.RowKit Go.Vc Go.Am
def zfv(s:Shape)(bad:Bool):Int:=if bad=true then 1 else if s.Usage≠0∧s.Category≠4 then 12 else if(s.Leading=true∨s.Separate=true)∧(s.Category≠4∨s.Usage≠0∨s.Signed=false)then 12 else if s.Just=true∧s.Category≠1∧s.Category≠2 then 12 else if s.Blank=true∧s.Category≠5 then 12 else if s.Size=sizeV s then 0 else 5
theorem QO(N:Nat)(s:Shape)(t:Bool):qV N (sizeV s) t s=some (if t=true then 12 else if s.Size=sizeV s then 0 else 5):=by
 unfold qV;cases t with
 |true=>rfl
 |false=>
  rw[cond_false,zg];by_cases h:s.Size=sizeV s
  ·rw[if_pos h,if_pos h];rfl
  ·rw[if_neg h,if_neg h];rfl
theorem zhh(N:Nat)(s:Shape)(t:Bool):QM N (sizeV s) t s=some (if t=true then 12 else if s.Blank=true∧s.Category≠5 then 12 else if s.Size=sizeV s then 0 else 5):=by
 unfold QM;simp only[QO];cases t with
 |true=>rfl
 |false=>
  cases s.Blank with
  |true=>by_cases h:s.Category=5<;>simp[h]
  |false=>simp
theorem zhi(N:Nat)(s:Shape)(texts t:Bool)(ht:texts=decide (s.Category=1∨s.Category=2)):qU N (sizeV s) texts t s=
  some (if t=true then 12 else if s.Just=true∧s.Category≠1∧s.Category≠2 then 12 else if s.Blank=true∧s.Category≠5 then 12 else if s.Size=sizeV s then 0 else 5):=by
 unfold qU;simp only[zhh,QO];subst ht;cases t with
 |true=>rfl
 |false=>
  cases s.Just with
  |true=>
   by_cases h1:s.Category=1
   ·simp[h1]
   ·by_cases h2:s.Category=2
    ·simp[h2]
    ·simp[h1,h2]
  |false=>simp
theorem zhj(N:Nat)(s:Shape)(zoned texts t:Bool)(hz:zoned=decide (s.Category=4∧s.Usage=0))(ht:texts=decide (s.Category=1∨s.Category=2)):QN N (sizeV s) zoned texts t s=
  some (if t=true then 12 else if(s.Leading=true∨s.Separate=true)∧(s.Category≠4∨s.Usage≠0∨s.Signed=false)then 12 else if s.Just=true∧s.Category≠1∧s.Category≠2 then 12 else if s.Blank=true∧s.Category≠5 then 12 else if s.Size=sizeV s then 0 else 5):=by
 unfold QN;simp only[zhi _ _ _ _ ht,QO];subst hz;cases t with
 |true=>rfl
 |false=>
  by_cases h1:s.Category=4
  ·by_cases h2:s.Usage=0
   ·cases s.Leading<;>cases s.Separate<;>cases s.Signed<;>simp[h1,h2]
   ·cases s.Leading<;>cases s.Separate<;>simp[h1,h2]
  ·cases s.Leading<;>cases s.Separate<;>simp[h1]
theorem zhk(N:Nat)(s:Shape)(zoned texts t:Bool)(hz:zoned=decide (s.Category=4∧s.Usage=0))(ht:texts=decide (s.Category=1∨s.Category=2)):ZX N (sizeV s) zoned texts t s=some (zfv s t):=by
 unfold ZX zfv;simp only[zhj _ _ _ _ _ hz ht];cases t with
 |true=>rfl
 |false=>
  by_cases h1:s.Category=4
  ·by_cases h2:s.Usage=0<;>simp[h1,h2]
  ·by_cases h2:s.Usage=0<;>simp[h1,h2]
def y8(p:List UInt8):Shape×Int:=if(exR 0 [] (items p)).2=0 then zlK (exR 0 [] (items p)).1 else(zaH,(exR 0 [] (items p)).2)
def zbx(s:Shape):Prop:=s.Usage=0∧s.Picture=[]∧s.Digits=0∧s.Scale=0∧s.Signed=false∧s.Leading=false∧s.Separate=false∧s.Just=false∧s.Blank=false
instance(s:Shape):Decidable (zbx s):=by unfold zbx;infer_instance
def zko(s:Shape):Int:=if(y8 s.Picture).2≠0 then(y8 s.Picture).2 else if(y8 s.Picture).1.Picture≠s.Picture then 4 else zfv s (decide ((y8 s.Picture).1.Category≠s.Category∨(y8 s.Picture).1.Digits≠s.Digits∨(y8 s.Picture).1.Scale≠s.Scale∨(y8 s.Picture).1.Signed≠s.Signed))
def chkV(s:Shape):Int:=if YL s≠0 then YL s else if s.Category=0 then(if zbx s then 0 else 1)else zko s
theorem zhe{N:Nat}(hN:1000<N){s:List UInt8}(hs:s.length≤400):zdy N s=some (y8 s):=zkR hN hs
theorem Wa{N:Nat}(hN:1000<N){s:Shape}(hp:s.Picture.length≤400):WE N s=some (chkV s):=by
 unfold WE chkV;obtain⟨v,h1,h2⟩:=zkP (N:=N) hp;rw[h1,zc,zg];dsimp only;by_cases h3:YL s=0
 ·rw[if_pos h3,if_neg (fun h=>h h3),zb];have hv:=h2 h3;subst hv;by_cases h0:s.Category=0
  ·rw[if_pos h0,if_pos h0];have:(decide (s.Category=0)&&(decide (s.Usage=0)&&(decide (s.Picture=([]:List UInt8))&&(decide (s.Digits=0)&&(decide (s.Scale=0)&&(decide (s.Signed=false)&&(decide (s.Leading=false)&&(decide (s.Separate=false)&&(decide (s.Just=false)&&(decide (s.Blank=false)&&(decide (s.Size=s.Size)&&true)))))))))))=decide (zbx s):=by rw[Bool.eq_iff_iff,decide_eq_true_iff (p:=zbx s)];simp[zbx,h0]
   rw[this,zg];by_cases hg:zbx s
   ·rw[if_pos hg,if_pos hg]
   ·rw[if_neg hg,if_neg hg]
  ·rw[if_neg h0,if_neg h0,zhe hN hp,zc];have key:∀zoned,zoned=decide (s.Category=4∧s.Usage=0)→ZY N (sizeV s) (y8 s.Picture).2 zoned s (y8 s.Picture).1=some (zko s):=fun zoned hz=>by
    have k1:∀texts,texts=decide (s.Category=1∨s.Category=2)→QP N (sizeV s) (y8 s.Picture).2 zoned texts s (y8 s.Picture).1=some (zko s):=fun texts ht=>by
     unfold QP zko;simp only[zhk _ _ _ _ _ hz ht];by_cases e1:(y8 s.Picture).2=0
     ·by_cases e2:(y8 s.Picture).1.Picture=s.Picture
      ·by_cases e3:(y8 s.Picture).1.Category=s.Category
       ·by_cases e4:(y8 s.Picture).1.Digits=s.Digits
        ·by_cases e5:(y8 s.Picture).1.Scale=s.Scale<;>simp[e1,e2,e3,e4,e5]
        ·simp[e1,e2,e3,e4]
       ·simp[e1,e2,e3]
      ·simp[e1,e2]
     ·simp[e1]
    unfold ZY;rw[zb];by_cases c1:s.Category=1
    ·rw[if_pos c1];exact k1 true (by simp[c1])
    ·rw[if_neg c1];exact k1 _ (by simp[c1])
   show cond (decide (s.Category=4)) (ZY N (sizeV s) (y8 s.Picture).2 (decide (s.Usage=0)) s (y8 s.Picture).1) (ZY N (sizeV s) (y8 s.Picture).2 false s (y8 s.Picture).1)=_;rw[zb];by_cases h4:s.Category=4
   ·rw[if_pos h4];exact key _ (by simp[h4])
   ·rw[if_neg h4];exact key _ (by simp[h4])
 ·rw[if_neg h3,if_pos h3]
end Go.Proofs.C06
end
section
set_option maxRecDepth 100000
namespace Go.Proofs.C06
open Go Go.RowKit Go.Vc Go.Am
end Go.Proofs.C06
end
section
set_option maxRecDepth 100000
namespace Go.Proofs.C06
open Go Go.RowKit Go.Vc Go.Am
structure NS(s:Shape)(n:Nat):Prop where
 dig:s.Digits=(n:Int)
 n1:1≤n
 n18:n≤18
 cat:s.Category=4
 use:s.Usage=0∨s.Usage=1∨s.Usage=2
 sc1: -18≤s.Scale
 sc2:s.Scale≤18
 sep:s.Leading=true∨s.Separate=true→s.Usage=0∧s.Signed=true
 siz:s.Size=sizeV s
theorem Jw(a c:UInt8)(n:Nat):(rp n a).count c=if a=c then n else 0:=by unfold rp;rw[List.count_replicate];by_cases h:a=c<;>simp[h]
theorem zn9{r:List UInt8}{d:Nat}{sc:Int}(h:zhg r d sc): -(r.count 80:Int)≤sc∧sc≤(d:Int)+(r.count 80:Int):=by
 rcases h with⟨c,f,h1,h2,h3,h4⟩|⟨a,b,c,h1,h2,h3,h4,h5⟩|⟨c,k,e,h1,h2,h3,h4,h5,h6⟩
 ·omega
 ·have:r.count 80=b:=by rw[h3,List.count_append,List.count_append,Jw,Jw,Jw];simp
  split at h5<;>omega
 ·have:r.count 80=k:=by rw[h4,List.count_append,List.count_append,Jw,Jw,Jw];simp
  omega
theorem zlJ{p:List UInt8}{sh:Shape}(h:zlK p=(sh,0))(h4:sh.Category=4): -18≤sh.Scale∧sh.Scale≤18:=by
 unfold zlK at h;split at h
 ·rename_i x hx;cases h;unfold zhp at hx;split at hx
  ·cases hx;cases h4
  ·split at hx
   ·cases hx
   ·split at hx
    ·cases hx;cases h4
    ·split at hx
     ·cases hx;cases h4
     ·cases hx
 ·split at h
  ·rename_i d sc hn;unfold zgg at h;split at h
   ·cases h
   ·rename_i hlim;cases h;have hf:=zn9 (numS_form hn);have hle:(unS p).count 80≤p.count 80:=by
     unfold unS;split
     ·exact (List.drop_sublist 1 p).count_le 80
     ·exact Nat.le_refl _
    show-18≤sc∧sc≤18;omega
  ·split at h
   ·unfold zgg at h;split at h
    ·cases h
    ·cases h;cases h4
   ·cases h
theorem zaP{s:Shape}{b:Bool}(h:zfv s b=0):b=false∧((s.Leading=true∨s.Separate=true)→s.Category=4∧s.Usage=0∧s.Signed=true)∧s.Size=sizeV s:=by
 unfold zfv at h;split at h
 ·cases h
 ·rename_i hb;split at h
  ·cases h
  ·split at h
   ·cases h
   ·rename_i h2;split at h
    ·cases h
    ·split at h
     ·cases h
     ·split at h
      ·rename_i h5;refine⟨by simpa using hb,fun hl=>?_,h5⟩;by_cases c4:s.Category=4
       ·by_cases u0:s.Usage=0
        ·cases hs:s.Signed with
         |true=>exact⟨c4,u0,rfl⟩
         |false=>exact absurd ⟨hl,.inr (.inr hs)⟩ h2
        ·exact absurd ⟨hl,.inr (.inl u0)⟩ h2
       ·exact absurd ⟨hl,.inl c4⟩ h2
      ·cases h
theorem zlP{s:Shape}(h:chkV s=0)(h4:s.Category=4)(hu:0≤s.Usage):∃n,NS s n:=by
 unfold chkV at h;by_cases hE:YL s=0
 ·rw[if_neg (fun h=>h hE),if_neg (by omega)]at h;unfold YL at hE;split at hE
  ·cases hE
  ·rename_i e1;split at hE
   ·cases hE
   ·split at hE
    ·cases hE
    ·rename_i e3;unfold zko at h;by_cases h1:(y8 s.Picture).2=0
     ·rw[if_neg (fun h=>h h1)]at h;split at h
      ·cases h
      ·obtain⟨t1,t2,t3⟩:=zaP h;have t1:=of_decide_eq_false t1;have hc:(y8 s.Picture).1.Category=4:=by rw[←h4];exact Classical.byContradiction fun hne=>t1 (.inl hne)
       have hs:(y8 s.Picture).1.Scale=s.Scale:=Classical.byContradiction fun hne=>t1 (.inr (.inr (.inl hne)))
       have hb: -18≤(y8 s.Picture).1.Scale∧(y8 s.Picture).1.Scale≤18:=by
        unfold y8 at h1 hc⊢;split
        ·rename_i hx;rw[if_pos hx]at h1 hc;exact zlJ (Prod.ext rfl h1) hc
        ·rename_i hx;rw[if_neg hx]at h1;exact absurd h1 hx
       rw[hs]at hb;have hd:1≤s.Digits∧s.Digits≤18:=by omega
       refine⟨s.Digits.toNat,⟨by omega,by omega,by omega,h4,by omega,hb.1,hb.2,fun hl=>(t2 hl).2,t3⟩⟩
     ·rw[if_pos h1]at h;exact absurd h h1
 ·rw[if_pos hE]at h;exact absurd h hE
end Go.Proofs.C06
end
