/-
  A part of the proof of the laws on moves.
-/
import Derived.Test.YtpghlpmkljkakaaGreatDoorPa
section
set_option maxRecDepth 100000
namespace Go.Proofs.C06
open Go Go.RowKit Go.Vc Go.Am
abbrev EdV:=Option (Nat×Nat×Bool)
def fin(sg dg sc:Nat)(t:List UInt8):EdV:=if t=[43]∨t=[45]then(if sg+1<2∧0<dg then some (dg,sc,true)else none)else if t=[]∧sg<2∧0<dg then some (dg,sc,decide (0<sg))else none
def fr(sym:List UInt8)(m:Nat)(t:List UInt8):Nat:=if 0<cnt [57] t∨0<m then cnt [57] t else if sym≠[]then cnt sym t else if t.getD 0 0=90∨t.getD 0 0=42 then cnt [t.getD 0 0] t else 0
def zmW(sg dg:Nat)(sym:List UInt8)(m:Nat)(t:List UInt8):EdV:=if t.getD 0 0=46∨t.getD 0 0=86 then if t.getD 0 0=46∧fr sym m (t.drop 1)=0 then none else fin sg (dg+fr sym m (t.drop 1)) (fr sym m (t.drop 1)) (t.drop (1+fr sym m (t.drop 1)))else fin sg dg 0 t
def nin(sg dg:Nat)(sym:List UInt8)(t:List UInt8):EdV:=zmW sg (dg+cnt [57] t) sym (cnt [57] t) (t.drop (cnt [57] t))
def who(sg:Nat)(t:List UInt8):EdV:=if 0<cnt [90] t then nin sg (cnt [90] t) [90] (t.drop (cnt [90] t))else if 0<cnt [42] t then nin sg (cnt [42] t) [42] (t.drop (cnt [42] t))else if 1<cnt [36] t then nin sg (cnt [36] t-1) [36] (t.drop (cnt [36] t))else if 1<cnt [43] t then nin (sg+1) (cnt [43] t-1) [43] (t.drop (cnt [43] t))else if 1<cnt [45] t then nin (sg+1) (cnt [45] t-1) [45] (t.drop (cnt [45] t))else nin sg 0 [] t
def mon(sg:Nat)(t:List UInt8):EdV:=if cnt [36] t=1 then who sg (t.drop 1)else who sg t
def sgn(sg:Nat)(t:List UInt8):EdV:=if cnt [43] t=1 then mon (sg+1) (t.drop 1)else if cnt [45] t=1 then mon (sg+1) (t.drop 1)else mon sg t
def tail2(p:List UInt8):List UInt8:=p.drop (p.length-2)
def zpH(p:List UInt8):EdV:=if tail2 p=[67,82]∨tail2 p=[68,66]then sgn 1 (noIns (p.take (p.length-2)))else sgn 0 (noIns p)
def edS(p:List UInt8):EdV:=if p.getD 0 0=44∨p.getD (p.length-1) 0=44 then none else zpH p
def szN(p:List UInt8):Nat:=p.length-p.count 86
def yL(p:List UInt8)(dg sc:Nat)(sg:Bool):Shape:=Shape.mk 5 0 p dg sc sg false false false false (szN p)
def Res(p:List UInt8)(o:Option (Shape×Bool))(v:EdV):Prop:=∃sh,o=some (sh,v.isSome)∧∀d sc sg,v=some (d,sc,sg)→sh=yL p d sc sg
theorem Res.no{p:List UInt8}{sh:Shape}:Res p (some (sh,false)) none:=⟨sh,rfl,fun _ _ _ h=>by cases h⟩
theorem Res.yes{p:List UInt8}{d sc:Nat}{sg:Bool}{sh:Shape}(h:sh=yL p d sc sg):Res p (some (sh,true)) (some (d,sc,sg)):=⟨sh,rfl,fun _ _ _ e=>by cases e;exact h⟩
section
variable {N : Nat} (hN : 1000 < N) {p q : List UInt8} (hq : q.length ≤ 400) (b0 : Shape)
include hN hq
omit hN hq in
theorem zc9(set:List UInt8)(k:Nat)(h:k≤q.length):k+cnt set (q.drop k)≤q.length:=by have:=Ym set (q.drop k);rw[List.length_drop]at this;omega
end
end Go.Proofs.C06
end
section
set_option maxRecDepth 100000
namespace Go.Proofs.C06
open Go Go.RowKit Go.Vc Go.Am
section
variable {N : Nat} (hN : 1000 < N) {p q : List UInt8} (hq : q.length ≤ 400) (b0 : Shape)
include hN hq
end
theorem zbO(s:List UInt8):(noIns s).length≤s.length:=List.length_filter_le ..
end Go.Proofs.C06
end
section
set_option maxRecDepth 100000
namespace Go.Proofs.C06
open Go Go.RowKit Go.Vc Go.Am
abbrev edE(p q:List UInt8)(i sg dg sc:Nat):editor:=editor.mk q i sg 5 0 p dg sc false false false false false (szN p)
section
variable {N : Nat} (hN : 1000 < N) {p q : List UInt8} (hq : q.length ≤ 400)
include hN hq
theorem VW(set:List UInt8)(k:Nat)(h2:k≤q.length):zP N q (k:Int) set=some ((cnt set (q.drop k):Nat):Int):=
 J0 (by omega) (by omega) h2
theorem KO(set:List UInt8)(i sg dg sc:Nat)(hi:i≤q.length):
  zc5 N set (edE p q i sg dg sc)=some (((cnt set (q.drop i):Nat):Int),edE p q (i+cnt set (q.drop i)) sg dg sc):=by
 have hle:=zc9 (q:=q) set i hi;unfold zc5 of_;dsimp only;rw[zc,VW hN hq set i hi,zc,show((i:Int)+((cnt set (q.drop i):Nat):Int))=((i+cnt set (q.drop i):Nat):Int)by omega,zg (by omega) (by omega),za]
omit hN in
theorem Y7(c:UInt8)(f:Nat):∀(n k:Nat),f+k≤q.length→q.length-(f+k)<n→
  yo N n q (f:Int) (k:Int) (c.toNat:Int)=some (((k+cnt [c] (q.drop (f+k)):Nat):Int),(c.toNat:Int))
 |0,k,_,h=>by omega
 |n+1,k,hk,h=>by
  show qY N (yo N n) q f k c.toNat=_;unfold qY;have e:((f:Int)+(k:Int))=((f+k:Nat):Int):=by omega
  rw[e,zg (by omega) (by omega),za,zb];by_cases hlt:f+k<q.length
  ·rw[if_pos (by omega),za,jb hlt,za,zx,zC hlt,jN];unfold zh2;rw[zc,zb];by_cases hc:q.getD (f+k) 0=c
   ·rw[if_pos (J3.2 hc),if_pos (by rw[hc];simp),show((k:Int)+1)=((k+1:Nat):Int)by omega,zg (by omega) (by omega),za,Y7 c f n (k+1) (by omega) (by omega)];congr 3;rw[show f+(k+1)=f+k+1 by omega];omega
   ·rw[if_neg (fun e=>hc (J3.1 e)),if_neg (by simp;exact hc)];rfl
  ·rw[if_neg (by omega),List.drop_eq_nil_of_le (by omega)];rfl
theorem zdb(c:UInt8)(f:Nat)(hf:f≤q.length):JZ N q (f:Int) (c.toNat:Int)=some (((cnt [c] (q.drop f):Nat):Int),(c.toNat:Int)):=by unfold JZ;have:=Y7 (N:=N) (q:=q) hq c f N 0 (by omega) (by omega);simpa using this
theorem XF(set:List UInt8)(hset:set.length≤10)(i sg dg sc n k:Nat)(hi:i≤q.length)(hk:k<set.length):
  y9 N (n+1) (set.length:Int) (k:Int) (edE p q i sg dg sc) set=
   if cnt [set.getD k 0] (q.drop i)=1 then some (true,edE p q (i+1) sg dg sc)else y9 N n (set.length:Int) ((k+1:Nat):Int) (edE p q i sg dg sc) set:=by
 show Zg N (y9 N n) set.length k (edE p q i sg dg sc) set=_;unfold Zg;dsimp only;rw[zb,if_pos (by omega),jb hk,za,za,zx,zdb hN hq _ _ hi,zc,zb];by_cases h:cnt [set.getD k 0] (q.drop i)=1
 ·rw[if_pos (by omega),if_pos h,show((i:Int)+1)=((i+1:Nat):Int)by omega,zg (by omega) (by omega),za]
 ·rw[if_neg (by omega),if_neg h,show((k:Int)+1)=((k+1:Nat):Int)by omega,zg (by omega) (by omega),za]
omit hN hq in
theorem zd4(set:List UInt8)(i sg dg sc n:Nat):y9 N (n+1) (set.length:Int) (set.length:Int) (edE p q i sg dg sc) set=some (false,edE p q i sg dg sc):=by show Zg N (y9 N n) set.length set.length (edE p q i sg dg sc) set=_;unfold Zg;rw[zb,if_neg (by omega)]
theorem zmh(c:UInt8)(i sg dg sc:Nat)(hi:i≤q.length):XG N [c] (edE p q i sg dg sc)=some (if cnt [c] (q.drop i)=1 then(true,edE p q (i+1) sg dg sc)else(false,edE p q i sg dg sc)):=by
 obtain⟨n,rfl⟩:∃n,N=n+2:=⟨N-2,by omega⟩
 have s0:=XF (p:=p) hN hq [c] (by simp) i sg dg sc (n+1) 0 hi (by simp);have s1:=zd4 (N:=n+2) (p:=p) (q:=q) [c] i sg dg sc n;unfold XG;rw[show((0:Nat):Int)=0 from rfl]at s0;rw[s0];show(if cnt [c] (q.drop i)=1 then _ else _)=_;split
 ·rfl
 ·exact s1
theorem zmg(c d:UInt8)(i sg dg sc:Nat)(hi:i≤q.length):XG N [c,d] (edE p q i sg dg sc)=some (if cnt [c] (q.drop i)=1 then(true,edE p q (i+1) sg dg sc)else if cnt [d] (q.drop i)=1 then(true,edE p q (i+1) sg dg sc)else(false,edE p q i sg dg sc)):=by
 obtain⟨n,rfl⟩:∃n,N=n+3:=⟨N-3,by omega⟩
 have s0:=XF (p:=p) hN hq [c,d] (by simp) i sg dg sc (n+2) 0 hi (by simp);have s1:=XF (p:=p) hN hq [c,d] (by simp) i sg dg sc (n+1) 1 hi (by simp);have s2:=zd4 (N:=n+3) (p:=p) (q:=q) [c,d] i sg dg sc n;unfold XG;rw[show((0:Nat):Int)=0 from rfl]at s0;rw[s0];show(if cnt [c] (q.drop i)=1 then _ else _)=_;split
 ·rfl
 ·refine s1.trans ?_;show(if cnt [d] (q.drop i)=1 then _ else _)=_;split
  ·rfl
  ·exact s2
theorem zjv(sym:List UInt8)(i sg dg:Nat)(hi:i≤q.length)(hd:dg≤400):
  zq N sym (edE p q i sg dg 0)=some (sym,decide (0<cnt [57] (q.drop i)),edE p q (i+cnt [57] (q.drop i)) sg (dg+cnt [57] (q.drop i)) 0):=by
 have hle:=zc9 (q:=q) [57] i hi;unfold zq;rw[KO hN hq [57] i sg dg 0 hi,zc];dsimp only;rw[show((dg:Int)+((cnt [57] (q.drop i):Nat):Int))=((dg+cnt [57] (q.drop i):Nat):Int)by omega,zg (by omega) (by omega),za];congr 2;congr 1;rw[Bool.eq_iff_iff];simp
def whoV(sg:Nat)(t:List UInt8):List UInt8×Nat×Nat×Nat:=if 0<cnt [90] t then([90],cnt [90] t,sg,cnt [90] t)else if 0<cnt [42] t then([42],cnt [42] t,sg,cnt [42] t)else if 1<cnt [36] t then([36],cnt [36] t,sg,cnt [36] t-1)else if 1<cnt [43] t then([43],cnt [43] t,sg+1,cnt [43] t-1)else if 1<cnt [45] t then([45],cnt [45] t,sg+1,cnt [45] t-1)else([],0,sg,0)
omit hN hq in
theorem zjw(sg:Nat)(t:List UInt8):who sg t=nin (whoV sg t).2.2.1 (whoV sg t).2.2.2 (whoV sg t).1 (t.drop (whoV sg t).2.1):=by
 unfold who whoV
 repeat' split
 all_goals rfl
omit hN hq in
theorem znJ(sg:Nat)(t:List UInt8):(whoV sg t).2.1≤t.length∧(whoV sg t).2.2.2≤(whoV sg t).2.1∧(whoV sg t).2.2.1≤sg+1∧(whoV sg t).1.length≤1:=by
 have:=fun c=>Ym [c] t
 unfold whoV
 repeat' split
 all_goals (refine⟨?_,?_,?_,?_⟩<;>first|exact this _|simp|omega)
theorem zcp(sym:List UInt8)(hsym:sym≠[])(i sg dg:Nat)(hi:i≤q.length):
  Za N sym (edE p q i sg dg 0)=zq N sym (edE p q i sg dg 0):=by
 have c36:=VW hN hq [36] i hi;have c43:=VW hN hq [43] i hi;have c45:=VW hN hq [45] i hi;unfold Za;have hof:∀s,of_ N s=some s:=fun _=>rfl
 have h36:([36].map toByte)=[36]:=rfl;have h43:([43].map toByte)=[43]:=rfl;have h45:([45].map toByte)=[45]:=rfl;simp only[hof,zc,h36,h43,h45,reduceCtorEq,decide_false,cond_false,decide_eq_false hsym,c36,c43,c45]
theorem zhG(i sg:Nat)(hi:i≤q.length)(hs:sg≤5)(h90:¬0<cnt [90] (q.drop i))(h42:¬0<cnt [42] (q.drop i)):
  Za N [] (edE p q i sg 0 0)=zq N (whoV sg (q.drop i)).1 (edE p q (i+(whoV sg (q.drop i)).2.1) (whoV sg (q.drop i)).2.2.1 (whoV sg (q.drop i)).2.2.2 0):=by
 have c36:=VW hN hq [36] i hi;have c43:=VW hN hq [43] i hi;have c45:=VW hN hq [45] i hi;have l36:=zc9 (q:=q) [36] i hi;have l43:=zc9 (q:=q) [43] i hi;have l45:=zc9 (q:=q) [45] i hi;unfold Za whoV;rw[if_neg h90,if_neg h42];have hof:∀s,of_ N s=some s:=fun _=>rfl
 have h36:([36].map toByte)=[36]:=rfl;have h43:([43].map toByte)=[43]:=rfl;have h45:([45].map toByte)=[45]:=rfl;simp only[hof,zc,h36,h43,h45,decide_true,cond_true,reduceCtorEq,decide_false,cond_false,c36,c43,c45];rw[zb];by_cases h1:1<cnt [36] (q.drop i)
 ·have e:((i:Int)+((cnt [36] (q.drop i):Nat):Int))=((i+cnt [36] (q.drop i):Nat):Int):=by omega
  have e2:(((cnt [36] (q.drop i):Nat):Int)-1)=((cnt [36] (q.drop i)-1:Nat):Int):=by omega
  rw[if_pos (by omega),if_pos h1,e,e2,zg (by omega) (by omega),za,zg (by omega) (by omega),za,VW hN hq [43] _ l36,zc,VW hN hq [45] _ l36,zc]
 ·rw[if_neg (by omega),if_neg h1,zb];by_cases h2:1<cnt [43] (q.drop i)
  ·have e:((i:Int)+((cnt [43] (q.drop i):Nat):Int))=((i+cnt [43] (q.drop i):Nat):Int):=by omega
   have e2:(((cnt [43] (q.drop i):Nat):Int)-1)=((cnt [43] (q.drop i)-1:Nat):Int):=by omega
   have e3:((sg:Int)+1)=((sg+1:Nat):Int):=by omega
   rw[if_pos (by omega),if_pos h2,e,e2,e3,zg (by omega) (by omega),za,zg (by omega) (by omega),za,zg (by omega) (by omega),za,VW hN hq [45] _ l43,zc]
  ·rw[if_neg (by omega),if_neg h2,zb];by_cases h3:1<cnt [45] (q.drop i)
   ·have e:((i:Int)+((cnt [45] (q.drop i):Nat):Int))=((i+cnt [45] (q.drop i):Nat):Int):=by omega
    have e2:(((cnt [45] (q.drop i):Nat):Int)-1)=((cnt [45] (q.drop i)-1:Nat):Int):=by omega
    have e3:((sg:Int)+1)=((sg+1:Nat):Int):=by omega
    rw[if_pos (by omega),if_pos h3,e,e2,e3,zg (by omega) (by omega),za,zg (by omega) (by omega),za,zg (by omega) (by omega),za]
   ·rw[if_neg (by omega),if_neg h3];rfl
theorem zoH(i sg:Nat)(hi:i≤q.length)(hs:sg≤5):
  whole N (edE p q i sg 0 0)=zq N (whoV sg (q.drop i)).1 (edE p q (i+(whoV sg (q.drop i)).2.1) (whoV sg (q.drop i)).2.2.1 (whoV sg (q.drop i)).2.2.2 0):=by
 have l90:=zc9 (q:=q) [90] i hi;have l42:=zc9 (q:=q) [42] i hi;unfold whole;rw[KO hN hq [90] i sg 0 0 hi,zc,zb];by_cases h1:0<cnt [90] (q.drop i)
 ·have:whoV sg (q.drop i)=([90],cnt [90] (q.drop i),sg,cnt [90] (q.drop i)):=by unfold whoV;rw[if_pos h1]
  rw[if_pos (by omega),this];exact zcp hN hq [90] (by simp) _ sg _ l90
 ·have h0:cnt [90] (q.drop i)=0:=by omega
  rw[if_neg (by omega),h0];show(bnd (zc5 N [42] (edE p q i sg 0 0)) _)=_;rw[KO hN hq [42] i sg 0 0 hi,zc,zb];by_cases h2:0<cnt [42] (q.drop i)
  ·have:whoV sg (q.drop i)=([42],cnt [42] (q.drop i),sg,cnt [42] (q.drop i)):=by unfold whoV;rw[if_neg h1,if_pos h2]
   rw[if_pos (by omega),this];exact zcp hN hq [42] (by simp) _ sg _ l42
  ·have h0:cnt [42] (q.drop i)=0:=by omega
   rw[if_neg (by omega),h0];exact zhG hN hq i sg hi hs h1 h2
end
end Go.Proofs.C06
end
section
set_option maxRecDepth 100000
namespace Go.Proofs.C06
open Go Go.RowKit Go.Vc Go.Am
section
variable {N : Nat} (hN : 1000 < N) {p q : List UInt8} (hq : q.length ≤ 400)
include hN hq
omit hN hq in
theorem zfa(per:Bool)(f i sg dg:Nat)(hf:f≤400)(hd:dg≤1000):jS N per (f:Int) (edE p q i sg dg 0)=some (decide (0<f)||!per,edE p q i sg (dg+f) f):=by
 unfold jS;dsimp only;rw[show((dg:Int)+(f:Int))=((dg+f:Nat):Int)by omega,zg (by omega) (by omega),za,zb];by_cases h:0<f
 ·rw[if_pos (by omega),decide_eq_true h];rfl
 ·rw[if_neg (by omega),decide_eq_false h];rfl
theorem ziH(sym:List UInt8)(m i sg dg:Nat)(hi:i≤q.length)(hd:dg≤400):
  ∃ok i' dg' sc',fraction N sym (decide (0<m)) (edE p q i sg dg 0)=some (ok,edE p q i' sg dg' sc')∧i'≤q.length∧zmW sg dg sym m (q.drop i)=if ok=true then fin sg dg' sc' (q.drop i')else none:=by
 have hg:(q.drop i).getD 0 0=q.getD i 0:=by rw[List.getD_eq_getElem?_getD,List.getElem?_drop,List.getD_eq_getElem?_getD];rfl
 unfold fraction zmW;dsimp only;rw[hg,zb];by_cases h0:q.length≤i
 ·have:q.getD i 0=0:=by rw[List.getD_eq_getElem?_getD,List.getElem?_eq_none h0];rfl
  rw[if_pos (by omega),this];exact⟨true,i,dg,0,rfl,hi,rfl⟩
 ·have hlt:i<q.length:=by omega
  have k0:(q.getD i 0=46∨q.getD i 0=86)→∃ok i' dg' sc',Zs N sym (decide (0<m)) (edE p q i sg dg 0)=some (ok,edE p q i' sg dg' sc')∧i'≤q.length∧
    (if q.getD i 0=46∧fr sym m ((q.drop i).drop 1)=0 then none else fin sg (dg+fr sym m ((q.drop i).drop 1)) (fr sym m ((q.drop i).drop 1)) ((q.drop i).drop (1+fr sym m ((q.drop i).drop 1))))=if ok=true then fin sg dg' sc' (q.drop i')else none:=fun hor=>by
   have l9:=zc9 (q:=q) [57] (i+1) (by omega);have hper:decide (((q.getD i 0).toNat:Int)=46)=decide (q.getD i 0=46):=by rw[Bool.eq_iff_iff,decide_eq_true_eq,decide_eq_true_eq];exact J3 (b:=46)
   have done:∀f,i+1+f≤q.length→fr sym m (q.drop (i+1))=f→∀x,x=jS N (decide (q.getD i 0=46)) (f:Int) (edE p q (i+1+f) sg dg 0)→
     ∃ok i' dg' sc',x=some (ok,edE p q i' sg dg' sc')∧i'≤q.length∧
    (if q.getD i 0=46∧fr sym m ((q.drop i).drop 1)=0 then none else fin sg (dg+fr sym m ((q.drop i).drop 1)) (fr sym m ((q.drop i).drop 1)) ((q.drop i).drop (1+fr sym m ((q.drop i).drop 1))))=if ok=true then fin sg dg' sc' (q.drop i')else none:=fun f hf1 hf2 x hx=>by
    refine⟨_,_,_,_,hx.trans (zfa _ f _ sg dg (by omega) (by omega)),hf1,?_⟩;rw[List.drop_drop,hf2,List.drop_drop,←Nat.add_assoc];by_cases h1:q.getD i 0=46∧f=0
    ·rw[if_pos h1,if_neg];rw[decide_eq_true h1.1,h1.2];simp
    ·rw[if_neg h1,if_pos];rw[Bool.or_eq_true,decide_eq_true_eq,Bool.not_eq_true',decide_eq_false_iff_not];by_cases h2:q.getD i 0=46
     ·left;have:f≠0:=fun h=>h1 ⟨h2,h⟩
      omega
     ·right;exact h2
   have hg1:(q.drop (i+1)).getD 0 0=q.getD (i+1) 0:=by rw[List.getD_eq_getElem?_getD,List.getElem?_drop,List.getD_eq_getElem?_getD]
   unfold Zs;dsimp only;rw[jb hlt,za,show((i:Int)+1)=((i+1:Nat):Int)by omega,zg (by omega) (by omega),za,zx,hper];have hrun:=KO (p:=p) hN hq [57] (i+1) sg dg 0 (by omega);have hrun':zc5 N [57] (editor.mk q ((i+1:Nat):Int) (sg:Int) 5 0 p (dg:Int) ((0:Nat):Int) false false false false false ((szN p:Nat):Int))=_:=hrun;rw[hrun',zc,zb];unfold JW;by_cases h2:0<cnt [57] (q.drop (i+1))
   ·rw[if_pos (by omega),cond_true];exact done _ l9 (by unfold fr;rw[if_pos (.inl h2)]) _ rfl
   ·have h20:cnt [57] (q.drop (i+1))=0:=by omega
    rw[if_neg (by omega),zb];by_cases h3:0<m
    ·rw[if_pos h3];exact done _ l9 (by unfold fr;rw[if_pos (.inr h3)]) _ rfl
    ·rw[if_neg h3,zf,h20];by_cases h4:sym=[]
     ·rw[if_pos h4,zb];unfold JV;by_cases h5:i+1<q.length
      ·dsimp only;rw[if_pos (by omega),show of_ N [90,42]=some [90,42]from rfl,zc,Nat.add_zero,jb h5,za,zx,zas,zc];cases h6:([90,42]:List UInt8).contains (q.getD (i+1) 0)with
       |false=>rw[cond_false];refine done 0 (by omega) ?_ _ rfl;unfold fr;rw[if_neg (by omega),if_neg (fun h=>h h4),hg1,if_neg];rintro(h|h)<;>rw[h]at h6<;>cases h6
       |true=>
        have h7:q.getD (i+1) 0=90∨q.getD (i+1) 0=42:=by simpa using h6
        have hsub:Vc.sub q ((i+1:Nat):Int) ((i+1+1:Nat):Int)=[q.getD (i+1) 0]:=by rw[znU,List.drop_take,show i+1+1-(i+1)=1 by omega,zC h5];rfl
        have hr2:zc5 N [q.getD (i+1) 0] (editor.mk q ((i+1:Nat):Int) (sg:Int) 5 0 p (dg:Int) ((0:Nat):Int) false false false false false ((szN p:Nat):Int))=_:=KO (p:=p) hN hq [q.getD (i+1) 0] (i+1) sg dg 0 (by omega);rw[cond_true,show(((i+1:Nat):Int)+1)=((i+1+1:Nat):Int)by omega,zg (by omega) (by omega),za,zE.2 ⟨by omega,by omega,by omega⟩,za,hsub,hr2,zc];refine done _ (zc9 _ _ (by omega)) ?_ _ rfl;unfold fr;rw[if_neg (by omega),if_neg (fun h=>h h4),hg1,if_pos h7]
      ·dsimp only;rw[if_neg (by omega),cond_false];refine done 0 (by omega) ?_ _ rfl;unfold fr;rw[if_neg (by omega),if_neg (fun h=>h h4),if_neg];rw[hg1,List.getD_eq_getElem?_getD,List.getElem?_eq_none (by omega)];rintro(h|h)<;>cases h
     ·rw[if_neg h4,Nat.add_zero];have hr2:=KO (p:=p) hN hq sym (i+1) sg dg 0 (by omega);rw[hr2,zc];refine done _ (zc9 _ _ (by omega)) ?_ _ rfl;unfold fr;rw[if_neg (by omega),if_pos h4]
  rw[if_neg (by omega),jb hlt,za,zx,zf];by_cases h1:q.getD i 0=46
  ·rw[if_pos (by rw[h1];rfl),if_pos (.inl h1)];exact k0 (.inl h1)
  ·rw[if_neg (show¬(((q.getD i 0).toNat:Int)=46)from fun e=>h1 (J3.1 e)),za,zf];by_cases h2:q.getD i 0=86
   ·rw[if_pos (by rw[h2];rfl),if_pos (.inr h2)];exact k0 (.inr h2)
   ·rw[if_neg (show¬(((q.getD i 0).toNat:Int)=86)from fun e=>h2 (J3.1 e)),if_neg (by rintro(h|h);exact h1 h;exact h2 h)];exact⟨true,i,dg,0,rfl,hi,rfl⟩
end
def zgj(p:List UInt8)(v:EdV):EdV:=if p.getD 0 0=44∨p.getD (p.length-1) 0=44 then none else v
theorem ziQ{N:Nat}{p q:List UInt8}(hp0:p≠[])(hp:p.length≤400)(ok:Bool)(b0:Shape)(i sg dg sc:Nat):
  Res p (YV N p ok b0 (edE p q i sg dg sc)) (zgj p (if ok=true∧i=q.length∧sg<2∧0<dg then some (dg,sc,decide (0<sg))else none)):=by
 have hl:0<p.length:=List.length_pos_iff.2 hp0;have hx:=jb hl;have hb:=zx p 0;rw[show((0:Nat):Int)=0 from rfl]at hx hb;have no:∀{v:EdV}{sh:Shape},v=none→Res p (some (sh,false)) (zgj p v):=fun h=>by
  subst h;have:zgj p none=none:=by unfold zgj;split<;>rfl
  rw[this];exact Res.no
 unfold YV;dsimp only;cases ok with
 |false=>rw[cond_false];exact no (by rw[if_neg (by simp)])
 |true=>
  rw[cond_true,zb];by_cases h1:i=q.length
  ·rw[if_pos (by omega),zb];by_cases h2:sg<2
   ·rw[if_pos (by omega),zb];by_cases h3:0<dg
    ·rw[if_pos (by omega),hx,za,zf,hb,if_pos (show true=true∧i=q.length∧sg<2∧0<dg from⟨rfl,h1,h2,h3⟩)];unfold zgj;by_cases h4:p.getD 0 0=44
     ·rw[if_pos (by rw[h4];rfl),if_pos (.inl h4)];exact Res.no
     ·rw[if_neg (show¬(((p.getD 0 0).toNat:Int)=44)from fun e=>h4 (J3.1 e)),show((p.length:Int)-1)=((p.length-1:Nat):Int)by omega,zg (by omega) (by omega),za,jb (by omega),za,zx];by_cases h5:p.getD (p.length-1) 0=44
      ·rw[decide_eq_true (show(((p.getD (p.length-1) 0).toNat:Int)=44)by rw[h5];rfl),if_pos (.inr h5)];exact Res.no
      ·rw[decide_eq_false (show¬(((p.getD (p.length-1) 0).toNat:Int)=44)from fun e=>h5 (J3.1 e)),if_neg (by rintro(h|h);exact h4 h;exact h5 h)];refine Res.yes ?_;unfold yL;congr 1;rw[Bool.eq_iff_iff];simp
    ·rw[if_neg (by omega)];exact no (by rw[if_neg (fun h=>h3 h.2.2.2)])
   ·rw[if_neg (by omega)];exact no (by rw[if_neg (fun h=>h2 h.2.2.1)])
  ·rw[if_neg (by omega)];exact no (by rw[if_neg (fun h=>h1 h.2.1)])
theorem QS{N:Nat}(hN:1000<N){p q:List UInt8}(hp0:p≠[])(hp:p.length≤400)(hq:q.length≤400)(b0:Shape)(i sg:Nat)(hi:i≤q.length)(hs:sg≤4):
  Res p (YW N p b0 (edE p q i sg 0 0)) (zgj p (mon sg (q.drop i))):=by
 have rest:∀j,j≤q.length→Res p (bnd (whole N (edE p q j sg 0 0)) fun rr4=>bnd (fraction N rr4.1 rr4.2.1 rr4.2.2) fun rr5=>
   chk (zj rr5.2.at_ ((rr5.2.s).length:Int) ((rr5.2.s).length))<|
   cond (decide ((zI rr5.2.s rr5.2.at_)=([43]:List UInt8))) (
    qe N p rr5.1 true b0 rr5.2) (
    qe N p rr5.1 (decide ((zI rr5.2.s rr5.2.at_)=([45]:List UInt8))) b0 rr5.2)) (zgj p (who sg (q.drop j))):=fun j hj=>by
  obtain⟨w1,w2,w3,w4⟩:=znJ sg (q.drop j);rw[List.length_drop]at w1;rw[zoH hN hq j sg hj (by omega),zjw,List.drop_drop];generalize whoV sg (q.drop j)=v at*
  rw[zjv hN hq _ _ _ _ (by omega) (by omega),zc];unfold nin;have l9:=zc9 (q:=q) [57] (j+v.2.1) (by omega);obtain⟨ok,i',dg',sc',f1,f2,f3⟩:=ziH (p:=p) hN hq v.1 (cnt [57] (q.drop (j+v.2.1))) (j+v.2.1+cnt [57] (q.drop (j+v.2.1))) v.2.2.1 (v.2.2.2+cnt [57] (q.drop (j+v.2.1))) l9 (by omega);rw[f1,zc,List.drop_drop,f3];dsimp only;have hl:(q.drop i').length=q.length-i':=List.length_drop ..;have hsg:v.2.2.1≤5:=by omega
  generalize v.2.2.1=s at*
  have K:=fun i sg=>ziQ (N:=N) (p:=p) (q:=q) hp0 hp ok b0 i sg dg' sc'
  have one:∀c:UInt8,(c=43∨c=45)→q.drop i'=[c]→Res p (qe N p ok true b0 (edE p q i' s dg' sc')) (zgj p (if ok=true then fin s dg' sc' (q.drop i')else none)):=fun c hc he=>by
   unfold qe;dsimp only;rw[cond_true,show((s:Int)+1)=((s+1:Nat):Int)by omega,show((i':Int)+1)=((i'+1:Nat):Int)by omega,zg (by omega) (by omega),za,zg (by omega) (by omega),za];have:=K (i'+1) (s+1);have hor:[c]=[43]∨[c]=[45]:=by rcases hc with rfl|rfl<;>simp
   rw[he]at hl⊢;unfold fin;rw[if_pos hor];have e:i'+1=q.length:=by simp at hl;omega
   rw[show(if ok=true∧i'+1=q.length∧s+1<2∧0<dg' then some (dg',sc',decide (0<s+1))else none)=(if ok=true then if s+1<2∧0<dg' then some (dg',sc',true)else none else none)by
    by_cases a:ok=true<;>by_cases b:s+1<2∧0<dg'<;>simp[a,b,e];all_goals first|(intro h1 h2;exact absurd ⟨h1,h2⟩ b)|skip]at this
   exact this
  rw[zE.2 ⟨by omega,by omega,by omega⟩,za,zb6,zb];by_cases g1:q.drop i'=[43]
  ·rw[if_pos g1];exact one 43 (.inl rfl) g1
  ·rw[if_neg g1];by_cases g2:q.drop i'=[45]
   ·rw[decide_eq_true g2];exact one 45 (.inr rfl) g2
   ·rw[decide_eq_false g2];unfold qe;rw[cond_false];have:=K i' s;unfold fin;rw[if_neg (show¬(q.drop i'=[43]∨q.drop i'=[45])by rintro(h|h);exact g1 h;exact g2 h)];have e:q.drop i'=[]↔i'=q.length:=by rw[List.drop_eq_nil_iff];omega
    rw[show(if ok=true∧i'=q.length∧s<2∧0<dg' then some (dg',sc',decide (0<s))else none)=(if ok=true then if q.drop i'=[]∧s<2∧0<dg' then some (dg',sc',decide (0<s))else none else none)by
     by_cases a:ok=true<;>simp[a,e]]at this
    exact this
 unfold YW mon;rw[zmh hN hq 36 i sg 0 0 hi,zc];by_cases h:cnt [36] (q.drop i)=1
 ·rw[if_pos h,if_pos h,List.drop_drop];have:=zc9 (q:=q) [36] i hi;exact rest (i+1) (by omega)
 ·rw[if_neg h,if_neg h];exact rest i hi
theorem zfg{N:Nat}(hN:1000<N){p body:List UInt8}(hp0:p≠[])(hp:p.length≤400)(hb:body.length≤400)(ha:∀c∈body,c.toNat<128)(b0:Shape)(sg:Nat)(hs:sg≤3)(go)(b2:List (List UInt8))(t:Int):
  Res p (jT N go p body t t b0 (edE p [] 0 sg 0 0) b2) (zgj p (sgn sg (noIns body))):=by
 have hq:=zbO body;generalize hqq:noIns body=q at*
 have hq':q.length≤400:=by omega
 unfold jT sgn;dsimp only;rw[zb,if_neg (by omega),zf8 hN hb ha,zc,hqq];have s2:=zmg (p:=p) hN hq' 43 45 0 sg 0 0 (by omega);have s2':XG N [43,45] (editor.mk q ((0:Nat):Int) (sg:Int) 5 0 p ((0:Nat):Int) ((0:Nat):Int) false false false false false ((szN p:Nat):Int))=_:=s2;rw[s2',zc,List.drop_zero];have c43:=Ym [43] q;have c45:=Ym [45] q;have e1:((sg:Int)+1)=((sg+1:Nat):Int):=by omega
 by_cases h1:cnt [43] q=1
 ·rw[if_pos h1,if_pos h1];dsimp only;rw[cond_true,e1,zg (by omega) (by omega),za];exact QS hN hp0 hp hq' b0 1 (sg+1) (by omega) (by omega)
 ·rw[if_neg h1,if_neg h1];by_cases h2:cnt [45] q=1
  ·rw[if_pos h2,if_pos h2];dsimp only;rw[cond_true,e1,zg (by omega) (by omega),za];exact QS hN hp0 hp hq' b0 1 (sg+1) (by omega) (by omega)
  ·rw[if_neg h2,if_neg h2];dsimp only;rw[cond_false];exact QS hN hp0 hp hq' b0 0 sg (by omega) (by omega)
theorem ze1(p:List UInt8)(a b:UInt8):Lib.hasSuffix p [a,b]=decide (tail2 p=[a,b]):=by
 unfold Lib.hasSuffix tail2;rw[Bool.eq_iff_iff,decide_eq_true_eq,List.isSuffixOf_iff_suffix];constructor
 ·rintro⟨t,rfl⟩;rw[show(t++[a,b]).length-2=t.length by simp];simp
 ·intro h;exact⟨_,by rw[←h];exact List.take_append_drop _ _⟩
theorem zm4{N:Nat}(hN:1000<N){p:List UInt8}(hp:p.length≤400)(hp0:p≠[])(ha:∀c∈p,c.toNat<128):Res p (ziR N p) (edS p):=by
 have hc:=List.count_le_length (a:=(86:UInt8)) (l:=p);obtain⟨n,rfl⟩:∃n,N=n+3:=⟨N-3,by omega⟩
 unfold ziR;show Res p (bnd (some ((p.count 86:Nat):Int)) fun rr=>_) _;have hz:((p.length:Int)-((p.count 86:Nat):Int))=((szN p:Nat):Int):=by unfold szN;omega
 rw[zc,hz];have hzl:szN p≤400:=by unfold szN;omega
 rw[zg (by omega) (by omega),za];have hT:(p.take (p.length-2)).length≤400:=by rw[List.length_take];omega
 have haT:∀c∈p.take (p.length-2),c.toNat<128:=fun c h=>ha c (List.mem_of_mem_take h)
 have eS:edS p=zgj p (zpH p):=rfl;rw[eS];unfold zpH;show Res p (jT (n+3) (j6 (n+3) (n+2)) p p 2 0 _ (edE p [] 0 0 0 0) [[67,82],[68,66]]) _;have cs:∀a b:UInt8,yU p [a,b]=some (if tail2 p=[a,b]then p.take (p.length-2)else p,decide (tail2 p=[a,b])):=fun a b=>by unfold yU Lib.trimSuffix;rw[decide_eq_true (show p.length≤9223372036854775807 by omega),za,ze1];by_cases h:tail2 p=[a,b]<;>simp[h]
 have step:∀(go)(body:List UInt8)(k:Nat)(a b:UInt8)(sg:Nat)(b0:Shape),k<2→atS [[67,82],[68,66]] (k:Int)=[a,b]→sg≤3→
   jT (n+3) go p body 2 (k:Int) b0 (edE p [] 0 sg 0 0) [[67,82],[68,66]]=
    if tail2 p=[a,b]then go p (p.take (p.length-2)) 2 ((k+1:Nat):Int) b0 (edE p [] 0 (sg+1) 0 0) [[67,82],[68,66]]else go p body 2 ((k+1:Nat):Int) b0 (edE p [] 0 sg 0 0) [[67,82],[68,66]]:=fun go body k a b sg b0 hk hat hs=>by
  unfold jT;dsimp only;rw[zb,if_pos (by omega),show inIx (k:Int) ([[67,82],[68,66]]:List (List UInt8)).length=true from jb hk,za,za,hat,cs,zc];dsimp only;rw[zb];by_cases h:tail2 p=[a,b]
  ·rw[if_pos h,if_pos h,if_pos h,show((sg:Int)+1)=((sg+1:Nat):Int)by omega,show((k:Int)+1)=((k+1:Nat):Int)by omega,zg (by omega) (by omega),za,zg (by omega) (by omega),za]
  ·rw[if_neg h,if_neg h,show((k:Int)+1)=((k+1:Nat):Int)by omega,zg (by omega) (by omega),za]
 have s0:=step (j6 (n+3) (n+2)) p 0 67 82 0 (Shape.mk 0 0 [] 0 0 false false false false false 0) (by omega) rfl (by omega);rw[show((0:Nat):Int)=0 from rfl]at s0;have fin2:=fun body hb hab sg hs=>zfg (N:=n+3) (p:=p) (body:=body) hN hp0 hp hb hab (Shape.mk 0 0 [] 0 0 false false false false false 0) sg hs (j6 (n+3) n) [[67,82],[68,66]] 2
 rw[s0];by_cases h1:tail2 p=[67,82]
 ·rw[if_pos h1,if_pos (.inl h1)];show Res p (jT (n+3) (j6 (n+3) (n+1)) p (p.take (p.length-2)) 2 ((0+1:Nat):Int) _ (edE p [] 0 (0+1) 0 0) [[67,82],[68,66]]) _;rw[step (j6 (n+3) (n+1)) (p.take (p.length-2)) (0+1) 68 66 (0+1) _ (by omega) rfl (by omega),if_neg (by rw[h1];decide)];exact fin2 _ hT haT 1 (by omega)
 ·rw[if_neg h1];show Res p (jT (n+3) (j6 (n+3) (n+1)) p p 2 ((0+1:Nat):Int) _ (edE p [] 0 0 0 0) [[67,82],[68,66]]) _;rw[step (j6 (n+3) (n+1)) p (0+1) 68 66 0 _ (by omega) rfl (by omega)];by_cases h2:tail2 p=[68,66]
  ·rw[if_pos h2,if_pos (.inr h2)];exact fin2 _ hT haT 1 (by omega)
  ·rw[if_neg h2,if_neg (by rintro(h|h);exact h1 h;exact h2 h)];exact fin2 _ hp ha 0 (by omega)
end Go.Proofs.C06
end
