/-
  A part of the proof of the laws.
-/
import Derived.Test.YtannhfbidakffaaGreatDoorPa
set_option maxRecDepth 100000
namespace Go.Proofs.C06
open Go Go.RowKit Go.Vc Go.Am
section
abbrev EdV:=Option (Nat×Nat×Bool)
def fin(sg dg sc:Nat)(t:uAU):EdV:=if t=[43]\/t=[45]then(if sg+1<2/\0<dg then some (dg,sc,true)else none)else if t=[]/\sg<2/\0<dg then some (dg,sc,decide (0<sg))else none
def fr(sym:uAU)(m:Nat)(t:uAU):Nat:=if 0<cnt [57] t\/0<m then cnt [57] t else if sym≠[]then cnt sym t else if t.getD 0 0=90\/t.getD 0 0=42 then cnt [t.getD 0 0] t else 0
def zrD(sg dg:Nat)(sym:uAU)(m:Nat)(t:uAU):EdV:=if t.getD 0 0=46\/t.getD 0 0=86 then if t.getD 0 0=46/\fr sym m (t.drop 1)=0 then none else fin sg (dg+fr sym m (t.drop 1)) (fr sym m (t.drop 1)) (t.drop (1+fr sym m (t.drop 1)))else fin sg dg 0 t
def nin(sg dg:Nat)(sym:uAU)(t:uAU):EdV:=zrD sg (dg+cnt [57] t) sym (cnt [57] t) (t.drop (cnt [57] t))
def who(sg:Nat)(t:uAU):EdV:=if 0<cnt [90] t then nin sg (cnt [90] t) [90] (t.drop (cnt [90] t))else if 0<cnt [42] t then nin sg (cnt [42] t) [42] (t.drop (cnt [42] t))else if 1<cnt [36] t then nin sg (cnt [36] t-1) [36] (t.drop (cnt [36] t))else if 1<cnt [43] t then nin (sg+1) (cnt [43] t-1) [43] (t.drop (cnt [43] t))else if 1<cnt [45] t then nin (sg+1) (cnt [45] t-1) [45] (t.drop (cnt [45] t))else nin sg 0 [] t
def mon(sg:Nat)(t:uAU):EdV:=if cnt [36] t=1 then who sg (t.drop 1)else who sg t
def sgn(sg:Nat)(t:uAU):EdV:=if cnt [43] t=1 then mon (sg+1) (t.drop 1)else if cnt [45] t=1 then mon (sg+1) (t.drop 1)else mon sg t
def tail2(p:uAU):uAU:=p.drop (p.length-2)
def zvC(p:uAU):EdV:=if tail2 p=[67,82]\/tail2 p=[68,66]then sgn 1 (noIns (p.take (p.length-2)))else sgn 0 (noIns p)
def edS(p:uAU):EdV:=if p.getD 0 0=44\/p.getD (p.length-1) 0=44 then none else zvC p
def szN(p:uAU):Nat:=p.length-p.count 86
def qt(p:uAU)(dg sc:Nat)(sg:Bool):Shape:=Shape.mk 5 0 p dg sc sg false false false false (szN p)
def Res(p:uAU)(o:Option (Shape×Bool))(v:EdV):Prop:=∃sh,o=some (sh,v.isSome)/\∀d sc sg,v=some (d,sc,sg)->sh=qt p d sc sg
theorem Res.no{p:uAU}{sh:Shape}:Res p (some (sh,false)) none:=⟨sh,rfl,fun _ _ _ h=>by cases h⟩
theorem Res.yes{p:uAU}{d sc:Nat}{sg:Bool}{sh:Shape}(h:sh=qt p d sc sg):Res p (some (sh,true)) (some (d,sc,sg)):=⟨sh,rfl,fun _ _ _ e=>by cases e;exact h⟩
section
variable {N : Nat} (hN : 1000 < N) {p q : uAU} (hq : q.length <= 400) (b0 : Shape)
include hN hq
omit hN hq in
theorem zfm(set:uAU)(k:Nat)(h:k<=q.length):k+cnt set (q.drop k)<=q.length:=by
 have:=QD set (q.drop k)
 grind
end
end
section
section
variable {N : Nat} (hN : 1000 < N) {p q : uAU} (hq : q.length <= 400) (b0 : Shape)
include hN hq
end
theorem zdO(s:uAU):(noIns s).length<=s.length:=List.length_filter_le ..
end
section
abbrev edE(p q:uAU)(i sg dg sc:Nat):editor:=editor.mk q i sg 5 0 p dg sc false false false false false (szN p)
section
variable {N : Nat} (hN : 1000 < N) {p q : uAU} (hq : q.length <= 400)
include hN hq
theorem zaU(set:uAU)(k:Nat)(j:k<=q.length):jn N q (k:Int) set=some ((cnt set (q.drop k):Nat):Int):=
 Qc oM oM j
theorem WC(set:uAU)(i sg dg sc:Nat)(hi:i<=q.length):
  zfi N set (edE p q i sg dg sc)=some (((cnt set (q.drop i):Nat):Int),edE p q (i+cnt set (q.drop i)) sg dg sc):=by
 have j:=zfm (q:=q) set i hi;unfold zfi of_;dsimp only;rw[zc,zaU hN hq set i hi,zc,show((i:Int)+((cnt set (q.drop i):Nat):Int))=((i+cnt set (q.drop i):Nat):Int)by omega,zh oM oM,za]
omit hN in
theorem Xx(c:UInt8)(f:Nat):∀(n k:Nat),f+k<=q.length->q.length-(f+k)<n->
  yQ N n q (f:Int) (k:Int) (c.toNat:Int)=some (((k+cnt [c] (q.drop (f+k)):Nat):Int),(c.toNat:Int))
 |0,k,_,h=>oM
 |n+1,k,hk,h=>by
  show ZV N (yQ N n) q f k c.toNat=_;unfold ZV;have e:((f:Int)+(k:Int))=((f+k:Nat):Int):=oM
  rw[e,zh oM oM,za,zb];by_cases j:f+k<q.length
  ·rw[if_pos oM,za,jB j,za,zP,jq j,yf];unfold zln;rw[zc,zb];by_cases hc:q.getD (f+k) 0=c
   ·rw[if_pos (Qh.2 hc),if_pos (by rw[hc];simp),show((k:Int)+1)=((k+1:Nat):Int)by omega,zh oM oM,za,Xx c f n (k+1) oM oM]
    grind
   ·rw[if_neg (fun e=>hc (Qh.1 e)),if_neg (by simp;exact hc)];rfl
  ·rw[if_neg oM,List.drop_eq_nil_of_le oM];rfl
theorem zfo(c:UInt8)(f:Nat)(j:f<=q.length):Qb N q (f:Int) (c.toNat:Int)=some (((cnt [c] (q.drop f):Nat):Int),(c.toNat:Int)):=by unfold Qb;have:=Xx (N:=N) (q:=q) hq c f N 0 oM oM;simpa using this
theorem K9(set:uAU)(j:set.length<=10)(i sg dg sc n k:Nat)(hi:i<=q.length)(hk:k<set.length):
  qJ N (n+1) (set.length:Int) (k:Int) (edE p q i sg dg sc) set=
   if cnt [set.getD k 0] (q.drop i)=1 then some (true,edE p q (i+1) sg dg sc)else qJ N n (set.length:Int) ((k+1:Nat):Int) (edE p q i sg dg sc) set:=by
 show Z8 N (qJ N n) set.length k (edE p q i sg dg sc) set=_;unfold Z8;dsimp only;rw[zb,if_pos oM,jB hk,za,za,zP,zfo hN hq _ _ hi,zc,zb];by_cases h:cnt [set.getD k 0] (q.drop i)=1
 ·rw[if_pos oM,if_pos h,show((i:Int)+1)=((i+1:Nat):Int)by omega,zh oM oM,za]
 ·rw[if_neg oM,if_neg h,show((k:Int)+1)=((k+1:Nat):Int)by omega,zh oM oM,za]
omit hN hq in
theorem zhc(set:uAU)(i sg dg sc n:Nat):qJ N (n+1) (set.length:Int) (set.length:Int) (edE p q i sg dg sc) set=some (false,edE p q i sg dg sc):=by
 show Z8 N (qJ N n) set.length set.length (edE p q i sg dg sc) set=_;unfold Z8
 grind
theorem zqx(c:UInt8)(i sg dg sc:Nat)(hi:i<=q.length):Va N [c] (edE p q i sg dg sc)=some (if cnt [c] (q.drop i)=1 then(true,edE p q (i+1) sg dg sc)else(false,edE p q i sg dg sc)):=by
 obtain⟨n,rfl⟩:∃n,N=n+2:=⟨N-2,oM⟩
 have j:=K9 (p:=p) hN hq [c] sI i sg dg sc (n+1) 0 hi sI;have s1:=zhc (N:=n+2) (p:=p) (q:=q) [c] i sg dg sc n;unfold Va
 grind
theorem zqw(c d:UInt8)(i sg dg sc:Nat)(hi:i<=q.length):Va N [c,d] (edE p q i sg dg sc)=some (if cnt [c] (q.drop i)=1 then(true,edE p q (i+1) sg dg sc)else if cnt [d] (q.drop i)=1 then(true,edE p q (i+1) sg dg sc)else(false,edE p q i sg dg sc)):=by
 obtain⟨n,rfl⟩:∃n,N=n+3:=⟨N-3,oM⟩
 have B:=K9 (p:=p) hN hq [c,d] sI i sg dg sc (n+2) 0 hi sI;have s1:=K9 (p:=p) hN hq [c,d] sI i sg dg sc (n+1) 1 hi sI;have j:=zhc (N:=n+3) (p:=p) (q:=q) [c,d] i sg dg sc n;unfold Va
 grind
theorem znx(sym:uAU)(i sg dg:Nat)(hi:i<=q.length)(B:dg<=400):
  zA N sym (edE p q i sg dg 0)=some (sym,decide (0<cnt [57] (q.drop i)),edE p q (i+cnt [57] (q.drop i)) sg (dg+cnt [57] (q.drop i)) 0):=by
 have j:=zfm (q:=q) [57] i hi;unfold zA;rw[WC hN hq [57] i sg dg 0 hi,zc];dsimp only;rw[show((dg:Int)+((cnt [57] (q.drop i):Nat):Int))=((dg+cnt [57] (q.drop i):Nat):Int)by omega,zh oM oM,za];congr 2;congr 1;rw[Bool.eq_iff_iff];simp
def whoV(sg:Nat)(t:uAU):uAU×Nat×Nat×Nat:=if 0<cnt [90] t then([90],cnt [90] t,sg,cnt [90] t)else if 0<cnt [42] t then([42],cnt [42] t,sg,cnt [42] t)else if 1<cnt [36] t then([36],cnt [36] t,sg,cnt [36] t-1)else if 1<cnt [43] t then([43],cnt [43] t,sg+1,cnt [43] t-1)else if 1<cnt [45] t then([45],cnt [45] t,sg+1,cnt [45] t-1)else([],0,sg,0)
omit hN hq in
theorem zny(sg:Nat)(t:uAU):who sg t=nin (whoV sg t).2.2.1 (whoV sg t).2.2.2 (whoV sg t).1 (t.drop (whoV sg t).2.1):=by
 unfold who whoV
 grind
omit hN hq in
theorem zsF(sg:Nat)(t:uAU):(whoV sg t).2.1<=t.length/\(whoV sg t).2.2.2<=(whoV sg t).2.1/\(whoV sg t).2.2.1<=sg+1/\(whoV sg t).1.length<=1:=by
 have:=fun c=>QD [c] t
 unfold whoV
 grind
theorem zep(sym:uAU)(j:sym≠[])(i sg dg:Nat)(hi:i<=q.length):
  Z4 N sym (edE p q i sg dg 0)=zA N sym (edE p q i sg dg 0):=by
 have J:=zaU hN hq [36] i hi;have O:=zaU hN hq [43] i hi;have S:=zaU hN hq [45] i hi;unfold Z4;have U:∀s,of_ N s=some s:=fun _=>rfl
 have B:([36].map toByte)=[36]:=rfl;have I:([43].map toByte)=[43]:=rfl;have H:([45].map toByte)=[45]:=rfl;simp only[U,zc,B,I,H,reduceCtorEq,decide_false,cond_false,decide_eq_false j,J,O,S]
theorem zkX(i sg:Nat)(hi:i<=q.length)(hs:sg<=5)(S:¬0<cnt [90] (q.drop i))(U:¬0<cnt [42] (q.drop i)):
  Z4 N [] (edE p q i sg 0 0)=zA N (whoV sg (q.drop i)).1 (edE p q (i+(whoV sg (q.drop i)).2.1) (whoV sg (q.drop i)).2.2.1 (whoV sg (q.drop i)).2.2.2 0):=by
 have J:=zaU hN hq [36] i hi;have O:=zaU hN hq [43] i hi;have c45:=zaU hN hq [45] i hi;have B:=zfm (q:=q) [36] i hi;have Z:=zfm (q:=q) [43] i hi;have l45:=zfm (q:=q) [45] i hi;unfold Z4 whoV;rw[if_neg S,if_neg U];have hof:∀s,of_ N s=some s:=fun _=>rfl
 have h36:([36].map toByte)=[36]:=rfl;have I:([43].map toByte)=[43]:=rfl;have H:([45].map toByte)=[45]:=rfl;simp only[hof,zc,h36,I,H,decide_true,cond_true,reduceCtorEq,decide_false,cond_false,J,O,c45];rw[zb];by_cases h1:1<cnt [36] (q.drop i)
 ·have e:((i:Int)+((cnt [36] (q.drop i):Nat):Int))=((i+cnt [36] (q.drop i):Nat):Int):=oM
  have j:(((cnt [36] (q.drop i):Nat):Int)-1)=((cnt [36] (q.drop i)-1:Nat):Int):=oM
  rw[if_pos oM,if_pos h1,e,j,zh oM oM,za,zh oM oM,za,zaU hN hq [43] _ B,zc,zaU hN hq [45] _ B,zc]
 ·rw[if_neg oM,if_neg h1,zb];by_cases h2:1<cnt [43] (q.drop i)
  ·have e:((i:Int)+((cnt [43] (q.drop i):Nat):Int))=((i+cnt [43] (q.drop i):Nat):Int):=oM
   have j:(((cnt [43] (q.drop i):Nat):Int)-1)=((cnt [43] (q.drop i)-1:Nat):Int):=oM
   have Y:((sg:Int)+1)=((sg+1:Nat):Int):=oM
   rw[if_pos oM,if_pos h2,e,j,Y,zh oM oM,za,zh oM oM,za,zh oM oM,za,zaU hN hq [45] _ Z,zc]
  ·rw[if_neg oM,if_neg h2,zb];by_cases h3:1<cnt [45] (q.drop i)
   ·have e:((i:Int)+((cnt [45] (q.drop i):Nat):Int))=((i+cnt [45] (q.drop i):Nat):Int):=oM
    have j:(((cnt [45] (q.drop i):Nat):Int)-1)=((cnt [45] (q.drop i)-1:Nat):Int):=oM
    have Y:((sg:Int)+1)=((sg+1:Nat):Int):=oM
    rw[if_pos oM,if_pos h3,e,j,Y,zh oM oM,za,zh oM oM,za,zh oM oM,za]
   grind
theorem zuf(i sg:Nat)(hi:i<=q.length)(O:sg<=5):
  whole N (edE p q i sg 0 0)=zA N (whoV sg (q.drop i)).1 (edE p q (i+(whoV sg (q.drop i)).2.1) (whoV sg (q.drop i)).2.2.1 (whoV sg (q.drop i)).2.2.2 0):=by
 have I:=zfm (q:=q) [90] i hi;have H:=zfm (q:=q) [42] i hi;unfold whole;rw[WC hN hq [90] i sg 0 0 hi,zc,zb];by_cases j:0<cnt [90] (q.drop i)
 ·have:whoV sg (q.drop i)=([90],cnt [90] (q.drop i),sg,cnt [90] (q.drop i)):=by unfold whoV;rw[if_pos j]
  rw[if_pos oM,this];exact zep hN hq [90] sI _ sg _ I
 ·have B:cnt [90] (q.drop i)=0:=oM
  rw[if_neg oM,B];show(bnd (zfi N [42] (edE p q i sg 0 0)) _)=_;rw[WC hN hq [42] i sg 0 0 hi,zc,zb];by_cases J:0<cnt [42] (q.drop i)
  ·have:whoV sg (q.drop i)=([42],cnt [42] (q.drop i),sg,cnt [42] (q.drop i)):=by unfold whoV;rw[if_neg j,if_pos J]
   rw[if_pos oM,this];exact zep hN hq [42] sI _ sg _ H
  ·have B:cnt [42] (q.drop i)=0:=oM
   rw[if_neg oM,B];exact zkX hN hq i sg hi O j J
end
end
section
section
variable {N : Nat} (hN : 1000 < N) {p q : uAU} (hq : q.length <= 400)
include hN hq
omit hN hq in
theorem zie(j:Bool)(f i sg dg:Nat)(H:f<=400)(B:dg<=1000):yh N j (f:Int) (edE p q i sg dg 0)=some (decide (0<f)||!j,edE p q i sg (dg+f) f):=by
 unfold yh;dsimp only;rw[show((dg:Int)+(f:Int))=((dg+f:Nat):Int)by omega,zh oM oM,za,zb]
 grind
theorem zmA(sym:uAU)(m i sg dg:Nat)(hi:i<=q.length)(hd:dg<=400):
  ∃ok I H B,fraction N sym (decide (0<m)) (edE p q i sg dg 0)=some (ok,edE p q I sg H B)/\I<=q.length/\zrD sg dg sym m (q.drop i)=if ok=true then fin sg H B (q.drop I)else none:=by
 have hg:(q.drop i).getD 0 0=q.getD i 0:=by
  grind
 unfold fraction zrD;dsimp only;rw[hg,zb];by_cases h0:q.length<=i
 ·have:q.getD i 0=0:=by rw[mN,uAo h0];rfl
  rw[if_pos oM,this];exact⟨true,i,dg,0,rfl,hi,rfl⟩
 ·have U:i<q.length:=oM
  have k0:(q.getD i 0=46\/q.getD i 0=86)->∃ok I H B,Jj N sym (decide (0<m)) (edE p q i sg dg 0)=some (ok,edE p q I sg H B)/\I<=q.length/\
    (if q.getD i 0=46/\fr sym m ((q.drop i).drop 1)=0 then none else fin sg (dg+fr sym m ((q.drop i).drop 1)) (fr sym m ((q.drop i).drop 1)) ((q.drop i).drop (1+fr sym m ((q.drop i).drop 1))))=if ok=true then fin sg H B (q.drop I)else none:=fun hor=>by
   have l9:=zfm (q:=q) [57] (i+1) oM;have hper:decide (((q.getD i 0).toNat:Int)=46)=decide (q.getD i 0=46):=by rw[Bool.eq_iff_iff,decide_eq_true_eq,decide_eq_true_eq];exact Qh (b:=46)
   have j:∀f,i+1+f<=q.length->fr sym m (q.drop (i+1))=f->∀x,x=yh N (decide (q.getD i 0=46)) (f:Int) (edE p q (i+1+f) sg dg 0)->
     ∃ok I H B,x=some (ok,edE p q I sg H B)/\I<=q.length/\
    (if q.getD i 0=46/\fr sym m ((q.drop i).drop 1)=0 then none else fin sg (dg+fr sym m ((q.drop i).drop 1)) (fr sym m ((q.drop i).drop 1)) ((q.drop i).drop (1+fr sym m ((q.drop i).drop 1))))=if ok=true then fin sg H B (q.drop I)else none:=fun f hf1 hf2 x hx=>by
    refine⟨_,_,_,_,hx.trans (zie _ f _ sg dg oM oM),hf1,?_⟩;rw[mZ,hf2,mZ,<-Nat.add_assoc];by_cases h1:q.getD i 0=46/\f=0
    ·grind
    ·grind
   have Z:(q.drop (i+1)).getD 0 0=q.getD (i+1) 0:=by
    grind
   unfold Jj;dsimp only;rw[jB U,za,show((i:Int)+1)=((i+1:Nat):Int)by omega,zh oM oM,za,zP,hper];have Y:=WC (p:=p) hN hq [57] (i+1) sg dg 0 oM;have J:zfi N [57] (editor.mk q ((i+1:Nat):Int) (sg:Int) 5 0 p (dg:Int) ((0:Nat):Int) false false false false false ((szN p:Nat):Int))=_:=Y;rw[J,zc,zb];unfold Y7;by_cases h2:0<cnt [57] (q.drop (i+1))
   ·rw[if_pos oM,cond_true];exact j _ l9 (by unfold fr;rw[if_pos (.inl h2)]) _ rfl
   ·have h20:cnt [57] (q.drop (i+1))=0:=oM
    rw[if_neg oM,zb];by_cases h3:0<m
    ·rw[if_pos h3];exact j _ l9 (by unfold fr;rw[if_pos (.inr h3)]) _ rfl
    ·rw[if_neg h3,zj,h20];by_cases h4:sym=[]
     ·rw[if_pos h4,zb];unfold Y6;by_cases h5:i+1<q.length
      ·dsimp only;rw[if_pos oM,show of_ N [90,42]=some [90,42]from rfl,zc,uAa,jB h5,za,zP,zcn,zc];cases h6:([90,42]:uAU).contains (q.getD (i+1) 0)with
       |false=>rw[cond_false];refine j 0 oM ?_ _ rfl;unfold fr;rw[if_neg oM,if_neg (fun h=>h h4),Z,if_neg];rintro(h|h)<;>rw[h]at h6<;>cases h6
       |true=>
        have h7:q.getD (i+1) 0=90\/q.getD (i+1) 0=42:=by simpa using h6
        have S:Vc.sub q ((i+1:Nat):Int) ((i+1+1:Nat):Int)=[q.getD (i+1) 0]:=by rw[zsT,List.drop_take,show i+1+1-(i+1)=1 by omega,jq h5];rfl
        have O:zfi N [q.getD (i+1) 0] (editor.mk q ((i+1:Nat):Int) (sg:Int) 5 0 p (dg:Int) ((0:Nat):Int) false false false false false ((szN p:Nat):Int))=_:=WC (p:=p) hN hq [q.getD (i+1) 0] (i+1) sg dg 0 oM;rw[cond_true,show(((i+1:Nat):Int)+1)=((i+1+1:Nat):Int)by omega,zh oM oM,za,zt.2 ⟨oM,oM,oM⟩,za,S,O,zc];refine j _ (zfm _ _ oM) ?_ _ rfl;unfold fr;rw[if_neg oM,if_neg (fun h=>h h4),Z,if_pos h7]
      ·dsimp only;rw[if_neg oM,cond_false];refine j 0 oM ?_ _ rfl;unfold fr
       grind
     ·rw[if_neg h4,uAa];have O:=WC (p:=p) hN hq sym (i+1) sg dg 0 oM;rw[O,zc];refine j _ (zfm _ _ oM) ?_ _ rfl;unfold fr
      grind
  rw[if_neg oM,jB U,za,zP,zj];by_cases h1:q.getD i 0=46
  ·simp_all
  ·rw[if_neg (show¬(((q.getD i 0).toNat:Int)=46)from fun e=>h1 (Qh.1 e)),za,zj];by_cases h2:q.getD i 0=86
   ·simp_all
   ·rw[if_neg (show¬(((q.getD i 0).toNat:Int)=86)from fun e=>h2 (Qh.1 e)),if_neg (by rintro(h|h);exact h1 h;exact h2 h)];exact⟨true,i,dg,0,rfl,hi,rfl⟩
end
def zju(p:uAU)(v:EdV):EdV:=if p.getD 0 0=44\/p.getD (p.length-1) 0=44 then none else v
theorem zmT{N:Nat}{p q:uAU}(H:p≠[])(hp:p.length<=400)(ok:Bool)(b0:Shape)(i sg dg sc:Nat):
  Res p (Xi N p ok b0 (edE p q i sg dg sc)) (zju p (if ok=true/\i=q.length/\sg<2/\0<dg then some (dg,sc,decide (0<sg))else none)):=by
 have Y:0<p.length:=List.length_pos_iff.2 H;have I:=jB Y;have J:=zP p 0;rw[show((0:Nat):Int)=0 from rfl]at I J;have no:∀{v:EdV}{sh:Shape},v=none->Res p (some (sh,false)) (zju p v):=fun h=>by
  subst h;have:zju p none=none:=by unfold zju;split<;>rfl
  rw[this];exact Res.no
 unfold Xi;dsimp only;cases ok with
 |false=>rw[cond_false];exact no (by rw[if_neg sI])
 |true=>
  rw[cond_true,zb];by_cases O:i=q.length
  ·rw[if_pos oM,zb];by_cases U:sg<2
   ·rw[if_pos oM,zb];by_cases S:0<dg
    ·rw[if_pos oM,I,za,zj,J,if_pos (show true=true/\i=q.length/\sg<2/\0<dg from⟨rfl,O,U,S⟩)];unfold zju;by_cases B:p.getD 0 0=44
     ·rw[if_pos (by rw[B];rfl),if_pos (.inl B)];exact Res.no
     ·rw[if_neg (show¬(((p.getD 0 0).toNat:Int)=44)from fun e=>B (Qh.1 e)),show((p.length:Int)-1)=((p.length-1:Nat):Int)by omega,zh oM oM,za,jB oM,za,zP];by_cases j:p.getD (p.length-1) 0=44
      ·rw[decide_eq_true (show(((p.getD (p.length-1) 0).toNat:Int)=44)by rw[j];rfl),if_pos (.inr j)];exact Res.no
      ·rw[decide_eq_false (show¬(((p.getD (p.length-1) 0).toNat:Int)=44)from fun e=>j (Qh.1 e)),if_neg (by rintro(h|h);exact B h;exact j h)];refine Res.yes ?_;unfold qt;simp_all
    grind
   grind
  ·grind
theorem Kk{N:Nat}(hN:1000<N){p q:uAU}(S:p≠[])(hp:p.length<=400)(hq:q.length<=400)(b0:Shape)(i sg:Nat)(hi:i<=q.length)(hs:sg<=4):
  Res p (Xj N p b0 (edE p q i sg 0 0)) (zju p (mon sg (q.drop i))):=by
 have U:∀j,j<=q.length->Res p (bnd (whole N (edE p q j sg 0 0)) fun J=>bnd (fraction N J.1 J.2.1 J.2.2) fun B=>
   chk (zk B.2.at_ ((B.2.s).length:Int) ((B.2.s).length))<|
   cond (decide ((zO B.2.s B.2.at_)=([43]:uAU))) (
    qP N p B.1 true b0 B.2) (
    qP N p B.1 (decide ((zO B.2.s B.2.at_)=([45]:uAU))) b0 B.2)) (zju p (who sg (q.drop j))):=fun j hj=>by
  obtain⟨w1,w2,w3,w4⟩:=zsF sg (q.drop j);rw[mP]at w1;rw[zuf hN hq j sg hj oM,zny,mZ];generalize whoV sg (q.drop j)=v at*
  rw[znx hN hq _ _ _ _ oM oM,zc];unfold nin;have Y:=zfm (q:=q) [57] (j+v.2.1) oM;obtain⟨ok,H,O,I,f1,f2,f3⟩:=zmA (p:=p) hN hq v.1 (cnt [57] (q.drop (j+v.2.1))) (j+v.2.1+cnt [57] (q.drop (j+v.2.1))) v.2.2.1 (v.2.2.2+cnt [57] (q.drop (j+v.2.1))) Y oM;rw[f1,zc,mZ,f3];dsimp only;have hl:(q.drop H).length=q.length-H:=mP ..;have hsg:v.2.2.1<=5:=oM
  generalize v.2.2.1=s at*
  have K:=fun i sg=>zmT (N:=N) (p:=p) (q:=q) S hp ok b0 i sg O I
  have one:∀c:UInt8,(c=43\/c=45)->q.drop H=[c]->Res p (qP N p ok true b0 (edE p q H s O I)) (zju p (if ok=true then fin s O I (q.drop H)else none)):=fun c hc Z=>by
   unfold qP;dsimp only;rw[cond_true,show((s:Int)+1)=((s+1:Nat):Int)by omega,show((H:Int)+1)=((H+1:Nat):Int)by omega,zh oM oM,za,zh oM oM,za];have:=K (H+1) (s+1);have hor:[c]=[43]\/[c]=[45]:=by rcases hc with rfl|rfl<;>simp
   rw[Z]at hl⊢;unfold fin
   grind
  rw[zt.2 ⟨oM,oM,oM⟩,za,zd6,zb];by_cases g1:q.drop H=[43]
  ·grind
  ·rw[if_neg g1];by_cases g2:q.drop H=[45]
   ·grind
   ·rw[decide_eq_false g2];unfold qP;rw[cond_false];have:=K H s;unfold fin
    grind
 unfold Xj mon;rw[zqx hN hq 36 i sg 0 0 hi,zc];by_cases h:cnt [36] (q.drop i)=1
 ·rw[if_pos h,if_pos h,mZ];have:=zfm (q:=q) [36] i hi
  grind
 ·grind
theorem zil{N:Nat}(hN:1000<N){p body:uAU}(B:p≠[])(hp:p.length<=400)(hb:body.length<=400)(ha:∀c∈body,c.toNat<128)(b0:Shape)(sg:Nat)(hs:sg<=3)(go)(S:List uAU)(t:Int):
  Res p (yi N go p body t t b0 (edE p [] 0 sg 0 0) S) (zju p (sgn sg (noIns body))):=by
 have hq:=zdO body;generalize hqq:noIns body=q at*
 have j:q.length<=400:=oM
 unfold yi sgn;dsimp only;rw[zb,if_neg oM,zjl hN hb ha,zc,hqq];have Y:=zqw (p:=p) hN j 43 45 0 sg 0 0 oM;have J:Va N [43,45] (editor.mk q ((0:Nat):Int) (sg:Int) 5 0 p ((0:Nat):Int) ((0:Nat):Int) false false false false false ((szN p:Nat):Int))=_:=Y;rw[J,zc,nS];have Z:=QD [43] q;have U:=QD [45] q;have O:((sg:Int)+1)=((sg+1:Nat):Int):=oM
 by_cases H:cnt [43] q=1
 ·rw[if_pos H,if_pos H];dsimp only;rw[cond_true,O,zh oM oM,za];exact Kk hN B hp j b0 1 (sg+1) oM oM
 ·rw[if_neg H,if_neg H];by_cases I:cnt [45] q=1
  ·rw[if_pos I,if_pos I];dsimp only;rw[cond_true,O,zh oM oM,za];exact Kk hN B hp j b0 1 (sg+1) oM oM
  ·rw[if_neg I,if_neg I];dsimp only;rw[cond_false];exact Kk hN B hp j b0 0 sg oM oM
theorem zh5(p:uAU)(a b:UInt8):Lib.hasSuffix p [a,b]=decide (tail2 p=[a,b]):=by
 unfold Lib.hasSuffix tail2;rw[Bool.eq_iff_iff,decide_eq_true_eq,List.isSuffixOf_iff_suffix];constructor
 ·rintro⟨t,rfl⟩;simp_all
 ·intro h;exact⟨_,by rw[<-h];exact mW _ _⟩
theorem zrT{N:Nat}(hN:1000<N){p:uAU}(hp:p.length<=400)(U:p≠[])(ha:∀c∈p,c.toNat<128):Res p (zmU N p) (edS p):=by
 have hc:=List.count_le_length (a:=(86:UInt8)) (l:=p);obtain⟨n,rfl⟩:∃n,N=n+3:=⟨N-3,oM⟩
 unfold zmU;show Res p (bnd (some ((p.count 86:Nat):Int)) fun rr=>_) _;have hz:((p.length:Int)-((p.count 86:Nat):Int))=((szN p:Nat):Int):=by unfold szN;omega
 rw[zc,hz];have hzl:szN p<=400:=by unfold szN;omega
 rw[zh oM oM,za];have Y:(p.take (p.length-2)).length<=400:=by rw[mI];omega
 have H:∀c∈p.take (p.length-2),c.toNat<128:=fun c h=>ha c (uAC h)
 have eS:edS p=zju p (zvC p):=rfl;rw[eS];unfold zvC;show Res p (yi (n+3) (yx (n+3) (n+2)) p p 2 0 _ (edE p [] 0 0 0 0) [[67,82],[68,66]]) _;have cs:∀a b:UInt8,qC p [a,b]=some (if tail2 p=[a,b]then p.take (p.length-2)else p,decide (tail2 p=[a,b])):=fun a b=>by
  unfold qC Lib.trimSuffix;rw[decide_eq_true (show p.length<=9223372036854775807 by omega),za,zh5]
  grind
 have step:∀(J)(body:uAU)(k:Nat)(a b:UInt8)(sg:Nat)(b0:Shape),k<2->atS [[67,82],[68,66]] (k:Int)=[a,b]->sg<=3->
   yi (n+3) J p body 2 (k:Int) b0 (edE p [] 0 sg 0 0) [[67,82],[68,66]]=
    if tail2 p=[a,b]then J p (p.take (p.length-2)) 2 ((k+1:Nat):Int) b0 (edE p [] 0 (sg+1) 0 0) [[67,82],[68,66]]else J p body 2 ((k+1:Nat):Int) b0 (edE p [] 0 sg 0 0) [[67,82],[68,66]]:=fun J body k a b sg b0 hk S Z=>by
  unfold yi;dsimp only;rw[zb,if_pos oM,show inIx (k:Int) ([[67,82],[68,66]]:List uAU).length=true from jB hk,za,za,S,cs,zc];dsimp only;rw[zb];by_cases h:tail2 p=[a,b]
  ·rw[if_pos h,if_pos h,if_pos h,show((sg:Int)+1)=((sg+1:Nat):Int)by omega,show((k:Int)+1)=((k+1:Nat):Int)by omega,zh oM oM,za,zh oM oM,za]
  ·rw[if_neg h,if_neg h,show((k:Int)+1)=((k+1:Nat):Int)by omega,zh oM oM,za]
 have s0:=step (yx (n+3) (n+2)) p 0 67 82 0 (Shape.mk 0 0 [] 0 0 false false false false false 0) oM rfl oM;rw[show((0:Nat):Int)=0 from rfl]at s0;have j:=fun body hb O sg Z=>zil (N:=n+3) (p:=p) (body:=body) hN U hp hb O (Shape.mk 0 0 [] 0 0 false false false false false 0) sg Z (yx (n+3) n) [[67,82],[68,66]] 2
 rw[s0];by_cases B:tail2 p=[67,82]
 ·rw[if_pos B,if_pos (.inl B)];show Res p (yi (n+3) (yx (n+3) (n+1)) p (p.take (p.length-2)) 2 ((0+1:Nat):Int) _ (edE p [] 0 (0+1) 0 0) [[67,82],[68,66]]) _;rw[step (yx (n+3) (n+1)) (p.take (p.length-2)) (0+1) 68 66 (0+1) _ oM rfl oM,if_neg (by rw[B];decide)];exact j _ Y H 1 oM
 ·rw[if_neg B];show Res p (yi (n+3) (yx (n+3) (n+1)) p p 2 ((0+1:Nat):Int) _ (edE p [] 0 0 0 0) [[67,82],[68,66]]) _;rw[step (yx (n+3) (n+1)) p (0+1) 68 66 0 _ oM rfl oM];by_cases I:tail2 p=[68,66]
  ·rw[if_pos I,if_pos (.inr I)];exact j _ Y H 1 oM
  ·rw[if_neg I,if_neg (by rintro(h|h);exact B h;exact I h)];exact j _ hp ha 0 oM
end
theorem zih:∀l,(flat l).length=tot l
 |[]=>rfl
 |(c,m)::l=>by show(List.replicate m c++flat l).length=m+tot l;rw[mO,mK,zih l]
theorem zh1:∀(n:Nat)(s:uAU)(l:List (UInt8×Nat)),s.length<=n->items s=some l->∀x∈l,syms.contains x.1=true
 |0,s,l,hn,h,x,j=>by have:s=[]:=uAv oM;subst this;rw[items]at h;cases h;cases j
 |n+1,[],l,hn,h,x,j=>by rw[items]at h;cases h;cases j
 |n+1,c::r,l,hn,h,x,j=>by
  rw[zbs]at h;split at h
  ·rename_i hc;rcases hr:rep r with _|⟨m,z⟩
   ·grind
   ·rw[hr]at h;simp only[]at h;rcases hi:items (r.drop z)with _|B
    ·grind
    ·rw[hi]at h;cases h;rcases nB.1 j with rfl|j
     ·exact hc
     ·exact zh1 n (r.drop z) B (by rw[mP];simp at hn;omega) hi x j
  ·cases h
theorem zo7:∀(l:List (UInt8×Nat)),(∀x∈l,syms.contains x.1=true)->∀c∈flat l,syms.contains c=true
 |[],_,c,hc=>by cases hc
 |(a,m)::l,h,c,hc=>by
  rcases mU.1 hc with j|j
  ·simp_all
  ·exact zo7 l (fun x B=>h x (by simp[B])) c j
theorem zpd{s p:uAU}{e:Int}(h:exR 0 [] (items s)=(p,e))(j:e=0):p≠[]/\p.length<=256/\∀c∈p,syms.contains c=true:=by
 subst j;rcases hi:items s with _|l
 ·rw[hi]at h;cases h
 ·rw[hi]at h;unfold exR at h;simp only[uAn,uAH]at h;split at h
  ·cases h
  ·split at h
   ·cases h
   ·cases h;rename_i B H;have:=zih l;refine⟨fun e=>?_,oM,zo7 l (zh1 s.length s l (mH _) hi)⟩
    grind
theorem zjS{c:UInt8}(h:syms.contains c=true):c.toNat<128:=by unfold syms at h;simp only[List.contains_cons,List.contains_nil,Bool.or_false,nO,beq_iff_eq]at h;rcases h with h|h|h|h|h|h|h|h|h|h|h|h|h|h|h|h|h|h|h<;>subst h<;>decide
def zvg(c:UInt8):Bool:=([65,88]:uAU).contains c
def zgR:Shape:=Shape.mk 0 0 [] 0 0 false false false false false 0
def zdq(p:uAU):Option Shape:=if cnt [65] p=p.length then some (Shape.mk 1 0 p 0 0 false false false false false (p.length:Int))else if p.countP zvg=0 then none else if cnt [65,88,57] p=p.length then some (Shape.mk 2 0 p 0 0 false false false false false (p.length:Int))else if cnt [65,88,57,66,48,47] p=p.length then some (Shape.mk 3 0 p 0 0 false false false false false (p.length:Int))else none
def zhL(p:uAU)(sh:Shape)(d:Nat):Shape×Int:=if 18<d+p.count 80 then(zgR,3)else(sh,0)
def parS(p:uAU):Shape×Int:=
 match zdq p with
 |some sh=>(sh,0)
 |none=>match zco (unS p)with
  |some (d,sc)=>zhL p (yd p (sgS p) d sc) d
  |none=>match edS p with
   |some (d,sc,sg)=>zhL p (qt p d sc sg) d
   |none=>(zgR,4)
theorem zBz{r:uAU}{d:Nat}{sc:Int}(h:zco r=some (d,sc)):d<=r.length:=by rcases numS_form h with⟨c,f,_,rfl,rfl,_⟩|⟨a,b,c,_,_,rfl,rfl,_⟩|⟨c,k,e,_,_,_,rfl,rfl,_⟩<;>simp<;>omega
theorem zC1(p:uAU):(unS p).length<=p.length:=by
 unfold unS
 grind
theorem zyk{sg dg sc:Nat}{t:uAU}{d c:Nat}{s:Bool}(h:fin sg dg sc t=some (d,c,s)):d=dg:=by
 unfold fin at h
 grind
theorem zEL(sym:uAU)(m:Nat)(t:uAU):fr sym m t<=t.length:=by
 unfold fr
 repeat' split
 all_goals first|exact QD _ _|exact uAm _
theorem zBV{sg dg m:Nat}{sym t:uAU}{d c:Nat}{s:Bool}(h:zrD sg dg sym m t=some (d,c,s)):d<=dg+t.length:=by
 unfold zrD at h;have j:=zEL sym m (t.drop 1);rw[mP]at j;split at h
 ·split at h
  ·cases h
  ·have:=zyk h;omega
 ·have:=zyk h;omega
theorem zDK{sg dg:Nat}{sym t:uAU}{d c:Nat}{s:Bool}(h:nin sg dg sym t=some (d,c,s)):d<=dg+t.length:=by
 unfold nin at h;have:=zBV h;have:=QD [57] t
 grind
theorem zrk{sg:Nat}{t:uAU}{d c:Nat}{s:Bool}(h:mon sg t=some (d,c,s)):d<=t.length:=by
 have w:∀t,who sg t=some (d,c,s)->d<=t.length:=fun t h=>by
  rw[zny]at h;have j:=zDK h;obtain⟨H,B,_,_⟩:=zsF sg t
  grind
 unfold mon at h
 grind
theorem zwA{sg:Nat}{t:uAU}{d c:Nat}{s:Bool}(h:sgn sg t=some (d,c,s)):d<=t.length:=by
 unfold sgn at h;split at h
 ·have:=zrk h
  grind
 ·split at h
  ·have:=zrk h
   grind
  ·exact zrk h
theorem zD1{p:uAU}{d c:Nat}{s:Bool}(h:edS p=some (d,c,s)):d<=p.length:=by
 unfold edS zvC at h;split at h
 ·cases h
 ·split at h
  ·have:=zwA h;have j:=zdO (p.take (p.length-2))
   grind
  ·have:=zwA h;have j:=zdO p;omega
theorem KS(cs:uAU):∀l:uAU,(0<=Lib.indexAny l cs)↔l.countP (cs.contains ·)≠0
 |[]=>by simp[Lib.indexAny]
 |b::l=>by
  have j:=KS cs l;have B:=Lib.indexAny_ge cs l;unfold Lib.indexAny
  grind
theorem zwm{N:Nat}(hN:1000<N){p:uAU}(hp:p.length<=400)(ha:∀c∈p,c.toNat<128):∃sh,zsQ N p=some (sh,(zdq p).isSome)/\∀x,zdq p=some x->sh=x:=by
 have C:=fun set=>Qc (N:=N) (s:=p) (set:=set) (f:=0) oM oM oM
 rw[show((0:Nat):Int)=0 from rfl,nS]at C;have j:∀s,of_ N s=some s:=fun _=>rfl
 unfold zsQ zdq;rw[j,zc,C,zc,zb];by_cases I:cnt [65] p=p.length
 ·simp_all
 ·rw[if_neg oM,if_neg I];have B:JN p [65,88]=some (decide (p.countP zvg≠0)):=by unfold JN;rw[decide_eq_true (show p.length<4294967281 by omega),show Wg p=true from mT.2 (fun c hc=>decide_eq_true (ha c hc))];rw[show(true&&(decide (([65,88]:uAU).length<4294967281)&&(true&&Wg [65,88])))=true from rfl,za];congr 1;unfold Lib.containsAny;rw[Bool.eq_iff_iff,decide_eq_true_eq,decide_eq_true_eq];exact KS [65,88] p
  rw[B,zc,zj];by_cases H:p.countP zvg=0
  ·simp_all
  ·rw[if_pos H,if_neg H,j,zc,C,zc,zb];by_cases J:cnt [65,88,57] p=p.length
   ·simp_all
   ·rw[if_neg oM,if_neg J,j,zc,C,zc,zb];by_cases O:cnt [65,88,57,66,48,47] p=p.length
    ·simp_all
    ·rw[if_neg oM,if_neg O];simp_all
theorem zv3{N:Nat}(hN:1000<N){s:uAU}(hs:s.length<=400):zp3 N s=some (if(exR 0 [] (items s)).2=0 then parS (exR 0 [] (items s)).1 else(zgR,(exR 0 [] (items s)).2)):=by
 unfold zp3;rw[zsA hN hs,zc,zj];by_cases O:(exR 0 [] (items s)).2=0
 ·rw[if_pos O,if_pos O];obtain⟨Y,hpl,S⟩:=zpd (show exR 0 [] (items s)=((exR 0 [] (items s)).1,(exR 0 [] (items s)).2)from rfl) O;generalize (exR 0 [] (items s)).1=p at*
  have ha:∀c∈p,c.toNat<128:=fun c hc=>zjS (S c hc)
  have hP:=List.count_le_length (a:=(80:UInt8)) (l:=p);have I:∀(sh:Shape)(d:Nat),d<=p.length->sh.uA=(d:Int)->(bnd (ZO p [80]) fun H=>chk (inKb .i64 (sh.uA+H))<|cond (decide (18<(sh.uA+H))) (some (zgR,(3:Int))) (some (sh,0)))=some (zhL p sh d):=fun sh d U he=>by
   show(bnd (some ((p.count 80:Nat):Int)) fun H=>_)=_;rw[zc,he,show((d:Int)+((p.count 80:Nat):Int))=((d+p.count 80:Nat):Int)by omega,zh oM oM,za,zb];unfold zhL
   grind
  obtain⟨B,t1,t2⟩:=zwm hN (p:=p) oM ha;rw[t1,zc];unfold parS;cases h1:zdq p with
  |some x=>
   have:=t2 x h1;subst this;have U:B.uA=((0:Nat):Int)/\p.count 80=0:=by
    have h80:∀set:uAU,set.contains 80=false->cnt set p=p.length->p.count 80=0:=fun set h h'=>by
     refine List.count_eq_zero.2 fun hm=>?_
     obtain⟨j,hj,he⟩:=List.mem_iff_getElem.1 hm;have J:(80:UInt8)∈p.take (cnt set p):=by rw[h',List.take_length];exact hm
     have:=XQ set p _ (mH _) 80 J
     grind
    unfold zdq at h1
    grind
   have:=I B 0 oM U.1;have hl:zhL p B 0=(B,0):=by unfold zhL;rw[U.2,if_neg oM]
   rw[hl]at this;exact this
  |none=>
   obtain⟨sh2,n1,Z⟩:=zox hN (p:=p) oM;rw[zuZ]at n1 Z;dsimp only[Option.isSome];rw[cond_false,n1,zc];cases h2:zco (unS p)with
   |some x=>obtain⟨d,sc⟩:=x;have:=Z d sc h2;subst this;have:=zC1 p;have:=zBz h2;exact I (yd p (sgS p) d sc) d oM rfl
   |none=>
    obtain⟨sh3,e1,e2⟩:=zrT hN (p:=p) oM Y ha;dsimp only[Option.isSome];rw[cond_false,e1,zc];cases h3:edS p with
    |some x=>obtain⟨d,sc,sg⟩:=x;have:=e2 d sc sg h3;subst this;have:=zD1 h3;exact I (qt p d sc sg) d this rfl
    |none=>rfl
 ·rw[if_neg O,if_neg O];rfl
theorem zC8{c:UInt8}(h:syms.contains c=true):c≠40/\c≠41:=by constructor<;>rintro rfl<;>cases h
theorem zve{c:UInt8}{t:uAU}(hc:syms.contains c=true)(j:t.getD 0 0≠40):items (c::t)=(items t).map ((c,1):: ·):=by
 rw[zbs,if_pos hc];have:rep t=some (1,0):=by unfold rep;rw[if_neg j]
 rw[this];rfl
theorem zrz{p:uAU}(h:∀c∈p,syms.contains c=true):p.getD 0 0≠40:=by
 cases p with
 |nil=>decide
 |cons c r=>exact (zC8 (h c sI)).1
theorem zbr:∀p:uAU,(∀c∈p,syms.contains c=true)->∃l,items p=some l/\flat l=p
 |[],_=>by rw[items];exact⟨[],rfl,rfl⟩
 |c::r,h=>by
  obtain⟨l,B,H⟩:=zbr r (fun x j=>h x (by simp[j]));refine⟨(c,1)::l,?_,?_⟩
  ·rw[zve (h c sI) (zrz (fun x j=>h x (by simp[j]))),B];rfl
  ·show List.replicate 1 c++flat l=_;rw[H];rfl
theorem zyn{l:List (UInt8×Nat)}{p:uAU}(h:flat l=p)(j:p≠[])(B:p.length<=256):exR 0 [] (some l)=(p,0):=by have:=zih l;rw[h]at this;have:0<p.length:=List.length_pos_iff.2 j;unfold exR;simp only[uAn,uAH];rw[if_neg oM,if_neg oM,h]
def sizeV(s:Shape):Int:=if s.uC=0 then s.uE else if s.uC≠4 then(szN s.uD:Int)else if s.uH=1 then s.uA/2+1 else if s.uH=2 then(if s.uA<=4 then 2 else if s.uA<=9 then 4 else 8)else if s.uL=true then s.uA+1 else s.uA
def qm(s:Shape):Int:=if 5<s.uC\/2<s.uH then 12 else if s.uC=0/\(s.uE<0\/1048576<s.uE)then 1 else if s.uC=4/\(s.uA<1\/18<s.uA)then 1 else 0
theorem zrh{N:Nat}{s:Shape}(I:s.uC=4)(J:1<=s.uA/\s.uA<=18):zhE N s=some (sizeV s):=by
 unfold zhE sizeV WR WQ;rw[if_neg oM,if_neg oM,zb];by_cases j:s.uH=1
 ·have:inKb .i64 (s.uA/2)=true:=zh oM oM;have H:zf s.uA=true:=decide_eq_true oM;rw[if_pos j,if_pos j,this,H,zh oM oM];rfl
 ·rw[if_neg j,if_neg j,zb];by_cases B:s.uH=2
  ·grind
  ·rw[if_neg B,if_neg B,cond_false,zb,if_neg B,cond_false,zb,if_neg B];cases s.uL with
   |true=>rw[cond_true,zh oM oM,za,if_pos rfl]
   |false=>rw[cond_false,if_neg sI]
theorem zv0{N:Nat}{s:Shape}(hp:s.uD.length<=400):∃v,zua N s=some (v,qm s)/\(qm s=0->v=sizeV s):=by
 have hc:=List.count_le_length (a:=(86:UInt8)) (l:=s.uD);unfold zua zdg Wi qm;rw[zb];by_cases I:5<s.uC
 ·simp_all
 ·rw[if_neg I,zb];by_cases J:2<s.uH
  ·simp_all
  ·rw[if_neg J,if_neg (by rintro(h|h);exact I h;exact J h),zb];by_cases B:s.uC=0
   ·rw[if_pos B,zb];by_cases j:s.uE<0
    ·simp_all
    ·rw[if_neg j,zb];by_cases H:1048576<s.uE
     ·simp_all
     ·rw[if_neg H,if_neg (fun h=>by rcases h.2 with h|h;exact j h;exact H h),if_neg (fun h=>oM),zb,if_pos B];exact⟨_,rfl,fun _=>by unfold sizeV;rw[if_pos B]⟩
   ·rw[if_neg B,cond_false,zb,if_neg B,if_neg (fun h=>B h.1),zj];by_cases j:s.uC=4
    ·rw[if_pos j,zb];by_cases H:s.uA<1
     ·simp_all
     ·rw[if_neg H,zb];by_cases O:18<s.uA
      ·simp_all
      ·rw[if_neg O,if_neg (fun h=>by rcases h.2 with h|h;exact H h;exact O h),zrh j ⟨oM,oM⟩,zc]
       grind
    ·rw[if_neg j,if_neg (fun h=>j h.1)];show∃v,(bnd (some ((s.uD.count 86:Nat):Int)) fun Y=>_)=_/\_;have S:((s.uD.length:Int)-((s.uD.count 86:Nat):Int))=((szN s.uD:Nat):Int):=by unfold szN;omega
     have U:szN s.uD<=400:=by unfold szN;omega
     rw[zc,S,zh oM oM,za];exact⟨_,rfl,fun _=>by unfold sizeV;rw[if_neg B,if_pos j]⟩
def KM(s:Shape)(j:Bool):Int:=if j=true then 1 else if s.uH≠0/\s.uC≠4 then 12 else if(s.uK=true\/s.uL=true)/\(s.uC≠4\/s.uH≠0\/s.uG=false)then 12 else if s.uM=true/\s.uC≠1/\s.uC≠2 then 12 else if s.uJ=true/\s.uC≠5 then 12 else if s.uE=sizeV s then 0 else 5
theorem Wo(N:Nat)(s:Shape)(t:Bool):Jt N (sizeV s) t s=some (if t=true then 12 else if s.uE=sizeV s then 0 else 5):=by
 unfold Jt
 grind
theorem zp8(N:Nat)(s:Shape)(t:Bool):Wm N (sizeV s) t s=some (if t=true then 12 else if s.uJ=true/\s.uC≠5 then 12 else if s.uE=sizeV s then 0 else 5):=by
 unfold Wm;simp only[Wo]
 grind
theorem zp9(N:Nat)(s:Shape)(j t:Bool)(H:j=decide (s.uC=1\/s.uC=2)):Js N (sizeV s) j t s=
  some (if t=true then 12 else if s.uM=true/\s.uC≠1/\s.uC≠2 then 12 else if s.uJ=true/\s.uC≠5 then 12 else if s.uE=sizeV s then 0 else 5):=by
 unfold Js;simp only[zp8,Wo];subst H;cases t with
 |true=>rfl
 |false=>
  cases s.uM with
  |true=>
   by_cases B:s.uC=1
   ·simp[B]
   ·grind
  |false=>simp
theorem zqa(N:Nat)(s:Shape)(B j t:Bool)(H:B=decide (s.uC=4/\s.uH=0))(I:j=decide (s.uC=1\/s.uC=2)):Wn N (sizeV s) B j t s=
  some (if t=true then 12 else if(s.uK=true\/s.uL=true)/\(s.uC≠4\/s.uH≠0\/s.uG=false)then 12 else if s.uM=true/\s.uC≠1/\s.uC≠2 then 12 else if s.uJ=true/\s.uC≠5 then 12 else if s.uE=sizeV s then 0 else 5):=by
 unfold Wn;simp only[zp9 _ _ _ _ I,Wo];subst H;cases t with
 |true=>rfl
 |false=>
  by_cases J:s.uC=4
  ·grind
  ·grind
theorem zqb(N:Nat)(s:Shape)(B j t:Bool)(I:B=decide (s.uC=4/\s.uH=0))(H:j=decide (s.uC=1\/s.uC=2)):YX N (sizeV s) B j t s=some (KM s t):=by
 unfold YX KM;simp only[zqa _ _ _ _ _ I H]
 grind
def yI(p:uAU):Shape×Int:=if(exR 0 [] (items p)).2=0 then parS (exR 0 [] (items p)).1 else(zgR,(exR 0 [] (items p)).2)
def zh7(s:Shape):Prop:=s.uH=0/\s.uD=[]/\s.uA=0/\s.uB=0/\s.uG=false/\s.uK=false/\s.uL=false/\s.uM=false/\s.uJ=false
instance(s:Shape):Decidable (zh7 s):=by unfold zh7;infer_instance
def zfk(s:Shape):Int:=if(yI s.uD).2≠0 then(yI s.uD).2 else if(yI s.uD).1.uD≠s.uD then 4 else KM s (decide ((yI s.uD).1.uC≠s.uC\/(yI s.uD).1.uA≠s.uA\/(yI s.uD).1.uB≠s.uB\/(yI s.uD).1.uG≠s.uG))
def chkV(s:Shape):Int:=if qm s≠0 then qm s else if s.uC=0 then(if zh7 s then 0 else 1)else zfk s
theorem zy9{N:Nat}(hN:1000<N){s:uAU}(j:s.length<=400):zp3 N s=some (yI s):=zv3 hN j
theorem ZY{N:Nat}(hN:1000<N){s:Shape}(hp:s.uD.length<=400):JG N s=some (chkV s):=by
 unfold JG chkV;obtain⟨v,U,Z⟩:=zv0 (N:=N) hp;rw[U,zc,zj];dsimp only;by_cases J:qm s=0
 ·rw[if_pos J,if_neg (fun h=>h J),zb];have hv:=Z J;subst hv;by_cases H:s.uC=0
  ·rw[if_pos H,if_pos H];have:(decide (s.uC=0)&&(decide (s.uH=0)&&(decide (s.uD=([]:uAU))&&(decide (s.uA=0)&&(decide (s.uB=0)&&(decide (s.uG=false)&&(decide (s.uK=false)&&(decide (s.uL=false)&&(decide (s.uM=false)&&(decide (s.uJ=false)&&(decide (s.uE=s.uE)&&true)))))))))))=decide (zh7 s):=by rw[Bool.eq_iff_iff,decide_eq_true_iff (p:=zh7 s)];simp[zh7,H]
   grind
  ·rw[if_neg H,if_neg H,zy9 hN hp,zc];have key:∀j,j=decide (s.uC=4/\s.uH=0)->Wq N (sizeV s) (yI s.uD).2 j s (yI s.uD).1=some (zfk s):=fun j hz=>by
    have k1:∀B,B=decide (s.uC=1\/s.uC=2)->Wp N (sizeV s) (yI s.uD).2 j B s (yI s.uD).1=some (zfk s):=fun B ht=>by
     unfold Wp zfk;simp only[zqb _ _ _ _ _ hz ht];by_cases I:(yI s.uD).2=0
     ·by_cases O:(yI s.uD).1.uD=s.uD
      ·by_cases S:(yI s.uD).1.uC=s.uC
       ·by_cases e4:(yI s.uD).1.uA=s.uA
        ·by_cases Y:(yI s.uD).1.uB=s.uB<;>simp[I,O,S,e4,Y]
        grind
       ·simp[I,O,S]
      ·simp[I,O]
     ·simp[I]
    unfold Wq
    grind
   grind
 grind
structure Good(p:uAU)(sh:Shape):Prop where
 par:parS p=(sh,0)
 ne:p≠[]
 len:p.length<=80
 sym:∀c∈p,syms.contains c=true
 pic:sh.uD=p
 cat:1<=sh.uC/\sh.uC<=5
 use:sh.uH=0
 dig:sh.uA<=18
 num:sh.uC=4->1<=sh.uA
 sca:sh.uB<=18
 led:sh.uK=false
 sep:sh.uL=false
 jus:sh.uM=false
 bla:sh.uJ=false
 siz:sh.uE=sizeV sh
theorem zkr{p:uAU}{sh:Shape}(h:Good p sh):yI p=(sh,0):=by obtain⟨l,j,B⟩:=zbr p h.sym;unfold yI;rw[j,zyn B h.ne (by have:=h.len;omega),if_pos rfl,h.par]
structure NS(s:Shape)(n:Nat):Prop where
 dig:s.uA=(n:Int)
 n1:1<=n
 n18:n<=18
 cat:s.uC=4
 use:s.uH=0\/s.uH=1\/s.uH=2
 sc1: -18<=s.uB
 sc2:s.uB<=18
 sep:s.uK=true\/s.uL=true->s.uH=0/\s.uG=true
 siz:s.uE=sizeV s
theorem QN(a c:UInt8)(n:Nat):(rp n a).count c=if a=c then n else 0:=by unfold rp;rw[List.count_replicate];by_cases h:a=c<;>simp[h]
theorem zBY{r:uAU}{d:Nat}{sc:Int}(h:zp5 r d sc): -(r.count 80:Int)<=sc/\sc<=(d:Int)+(r.count 80:Int):=by
 rcases h with⟨c,f,H,I,j,B⟩|⟨a,b,c,H,I,j,B,J⟩|⟨c,k,e,H,I,j,B,J,O⟩
 ·omega
 ·have:r.count 80=b:=by rw[j,List.count_append,List.count_append,QN,QN,QN];simp
  split at J<;>omega
 ·have:r.count 80=k:=by rw[B,List.count_append,List.count_append,QN,QN,QN];simp
  omega
theorem zxE{p:uAU}{sh:Shape}(h:parS p=(sh,0))(B:sh.uC=4): -18<=sh.uB/\sh.uB<=18:=by
 unfold parS at h;split at h
 ·rename_i x j;cases h;unfold zdq at j;split at j
  ·cases j;cases B
  ·split at j
   ·cases j
   ·split at j
    ·cases j;cases B
    ·split at j
     ·cases j;cases B
     ·cases j
 ·split at h
  ·rename_i d sc I;unfold zhL at h;split at h
   ·cases h
   ·rename_i H;cases h;have O:=zBY (numS_form I);have J:(unS p).count 80<=p.count 80:=by
     unfold unS;split
     ·exact (List.drop_sublist 1 p).count_le 80
     ·exact mH _
    show-18<=sc/\sc<=18;omega
  ·split at h
   ·unfold zhL at h;split at h
    ·cases h
    ·cases h;cases B
   ·cases h
theorem za3{s:Shape}{b:Bool}(h:KM s b=0):b=false/\((s.uK=true\/s.uL=true)->s.uC=4/\s.uH=0/\s.uG=true)/\s.uE=sizeV s:=by
 unfold KM at h;split at h
 ·cases h
 ·rename_i O;split at h
  ·cases h
  ·split at h
   ·cases h
   ·rename_i j;split at h
    ·cases h
    ·split at h
     ·cases h
     ·split at h
      ·rename_i J;refine⟨by simpa using O,fun B=>?_,J⟩;by_cases I:s.uC=4
       ·by_cases H:s.uH=0
        ·cases hs:s.uG with
         |true=>exact⟨I,H,rfl⟩
         |false=>exact absurd ⟨B,.inr (.inr hs)⟩ j
        ·exact absurd ⟨B,.inr (.inl H)⟩ j
       ·exact absurd ⟨B,.inl I⟩ j
      ·cases h
theorem zkc{s:Shape}(h:chkV s=0)(S:s.uC=4)(hu:0<=s.uH):∃n,NS s n:=by
 unfold chkV at h;by_cases j:qm s=0
 ·rw[if_neg (fun h=>h j),if_neg oM]at h;unfold qm at j;split at j
  ·cases j
  ·rename_i e1;split at j
   ·cases j
   ·split at j
    ·cases j
    ·rename_i e3;unfold zfk at h;by_cases B:(yI s.uD).2=0
     ·rw[if_neg (fun h=>h B)]at h;split at h
      ·cases h
      ·obtain⟨J,U,Z⟩:=za3 h;have J:=of_decide_eq_false J;have hc:(yI s.uD).1.uC=4:=by rw[<-S];exact Classical.byContradiction fun H=>J (.inl H)
       have Y:(yI s.uD).1.uB=s.uB:=Classical.byContradiction fun H=>J (.inr (.inr (.inl H)))
       have O: -18<=(yI s.uD).1.uB/\(yI s.uD).1.uB<=18:=by
        unfold yI at B hc⊢;split
        ·rename_i I;rw[if_pos I]at B hc;exact zxE (Prod.ext rfl B) hc
        ·rename_i I;rw[if_neg I]at B;exact absurd B I
       rw[Y]at O;have hd:1<=s.uA/\s.uA<=18:=oM
       refine⟨s.uA.toNat,⟨oM,oM,oM,S,oM,O.1,O.2,fun hl=>(U hl).2,Z⟩⟩
     ·rw[if_pos B]at h;exact absurd h B
 ·rw[if_pos j]at h;exact absurd h j
end Go.Proofs.C06
