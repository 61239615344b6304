/-
  A part of the proof of the laws.
-/
import Derived.Test.YtannhfbidakffaaGreatDoorIn
import Derived.Test.YtannhfbidakffaaGreatDoorSh
import Derived.Test.YtannhfbidakffaaGreatDoorShelf
import Derived.Shelf.Spec.SlicesGrow
import Derived.Lib.LazyBuf
set_option maxHeartbeats 40000000
set_option maxRecDepth 100000
namespace Go.Proofs.C06
open Go Go.RowKit Go.Vc Go.Am
def GP4(R:Ro):Prop:=GP3 R/\∃T fr,R 5=some (.cells (Lib.asciiSpaceTab.map fun z=>Value.int .u8 z).toArray T fr)
theorem zso:Bas Tryz.prog GP4 gl3:=⟨mixed,fun _ h=>zpS.hgl _ h.1,fun R R' j h=>⟨zpS.hst R R' j h.1,by obtain⟨T,fr,e⟩:=h.2;exact⟨T,fr,j _ _ e⟩⟩⟩
theorem qV{C:Con}(h:SoundC Tryz.prog GP3 C):SoundC Tryz.prog GP4 C:=fun B hh x r I H=>
 let⟨h1,h2⟩:=h B hh x r I H
 ⟨h1,fun R G w vs J W j=>h2 R G w vs J.1 W j⟩
def d1s(a:List AV)(_:Heap):Option uAU:=match a with
 |[.str l]=>some l
 |_=>none
theorem zD4{a:List AV}{h:Heap}{l:uAU}(e:d1s a h=some l):a=[.str l]:=by
 unfold d1s at e;split at e
 ·cases e;rfl
 ·cases e
def fields_con:Con:=zu2 199 d1s (fun l=>chk (l.all (fun b=>Nat.blt b.toNat 128)&&Nat.blt l.length 4294967281) (some (.strs 9 (Lib.fields l)))) (fun i=>.rwf i)
theorem zmF:SoundC Tryz.prog GP4 fields_con:=X1 (jk kR) fun args h l ao R G w vs hd hs hG W hr=>by
 have e:=zD4 hd;subst e;obtain⟨hc,hs⟩:=zm hs;cases hs;rw[mF]at hc;obtain⟨u,us,rfl,hu,hus⟩:=hr;have hus:us=[]:=hus;have hu:u=.string (bs l):=hu;subst hus hu;obtain⟨T,fr,hR⟩:=hG.2;have hw:=W.ro _ _ hR;have htab:Lib.TabIs Tryz.prog w "strings.asciiSpace" .u8 Lib.asciiSpaceTab:=by unfold Lib.TabIs World.var?;rw[show Tryz.prog.globalNamed "strings.asciiSpace" =some 5 from kR];simp[hw]
 have hbs:(bs l).data.toList=l:=by simp[bs]
 have hsz:(bs l).size=l.length:=by simp[bs,ByteArray.size]
 refine(Tryz.strings_Fields (bs l) w (by rw[hsz];exact mQ hc.2) (fun j b hj=>?_) htab).mono fun e w' ⟨he,hw'⟩=>?_
 ·rw[hbs]at hj;exact mQ (mT.1 hc.1 b (nX hj))
 ·rw[hbs]at he hw';refine⟨_,⟨w.heap.size,false,(Lib.fields l).length,[w.heap.size]⟩,he,by rw[hw'];exact Keeps.of_below ((Below.refl _ _).alloc (mH _) _),sI,fun L'=>?_,fun L' hL=>?_⟩
  ·rw[hw'];refine .inr ⟨rfl,rfl,mH _,(Lib.fields l).map (fun l=>Value.string (bs l)),[],(0,0),?_,rfl,sI,sI,mH _,fun j _ hj=>oM⟩;have hp:∀ob:Obj,(w.alloc ob).heap[w.heap.size]? =some ob:=fun ob=>by show(w.heap.push ob)[w.heap.size]? =some ob;rw[Array.getElem?_push_size]
   rw[hp,nM];rfl
  ·exact⟨_,hL,rfl,rfl,rfl⟩
def zvi:uAU->UInt8->Int->Int
 |[],_,_=> -1
 |b::l,c,n=>cond (Nat.beq b.toNat c.toNat) n (zvi l c (n+1))
theorem ztQ:∀(l:uAU)(c:UInt8)(n:Int),0<=n->zvi l c n=(if Lib.indexByte l c== -1 then-1 else Lib.indexByte l c+n)/\ -1<=Lib.indexByte l c
 |[],_,_,_=>⟨rfl,Int.le_refl _⟩
 |b::l,c,n,hn=>by
  obtain⟨J,U⟩:=ztQ l c (n+1) oM;unfold zvi Lib.indexByte;by_cases B:b=c
  ·subst B;simp
  ·have j:Nat.beq b.toNat c.toNat=false:=by
    cases hx:Nat.beq b.toNat c.toNat with
    |false=>rfl
    |true=>exact absurd (UInt8.toNat_inj.1 (mE hx)) B
   have H:(b==c)=false:=by simpa using B
   rw[j,cond_false,J,H];simp only[nA,if_false];by_cases I:Lib.indexByte l c= -1
   ·simp[I]
   ·have O:(Lib.indexByte l c== -1)=false:=by simpa using I
    simp only[O,nA,if_false];have S:((Lib.indexByte l c+1)== -1)=false:=by simp;omega
    simp only[S,nA,if_false];omega
theorem zvh(l:uAU)(c:UInt8):zvi l c 0=Lib.indexByte l c:=by
 obtain⟨h,_⟩:=ztQ l c 0 (Int.le_refl _);rw[h];split
 ·rename_i h;exact (by simpa using h:Lib.indexByte l c= -1).symm
 ·omega
def zBN(s p:uAU):Option Int:=match p with
 |[]=>some 0
 |[c]=>chk (!zS s) (some (zvi s c 0))
 |c::d::r=>match Nat.blt s.length (c::d::r).length,Nat.ble (c::d::r).length 9223372036854775807 with
  |true,true=>some (-1)
  |false,true=>match Nat.beq s.length (c::d::r).length with
   |true=>some (cond (c::d::r==s) 0 (-1))
   |false=>chk (Nat.blt s.length 4294967281) (some (Lib.index s (c::d::r)))
  |_,false=>none
def ziN:Con:=zEu 78 d2R (fun x=>zBN x.1 x.2) (AV.int .i64)
theorem zvX:∀(U:List AV)(h:Heap)(x:uAU×uAU)(r:Int)(R:Ro)(G:List Res)(w:World)(vs:List Value),d2R U h=some x->zBN x.1 x.2=some r->GP4 R->WRel R G h w->RelL (Am.look G h) R U vs->
  Calls Tryz.prog 78 vs.toArray w fun O w'=>O=.returned (.int .i64 r)/\Keeps [] w w':=fun U h x r R G w vs hd H hG W hr=>by
 obtain⟨p1,c1,p2,c2,rfl,hc1,hc2,S,I⟩:=zD3 hd W hr;obtain⟨s,p⟩:=x;have H:zBN s p=some r:=H;have S:Lib.BytesIn w p1 s.length (rowNums s):=S;have I:Lib.BytesIn w p2 p.length (rowNums p):=I;have key:∀(n:Int)(O:Ending)(w':World),(O=.returned (.int .i64 n)/\w'=w)->n=r->O=.returned (.int .i64 r)/\Keeps [] w w':=by rintro n O w' ⟨Z,rfl⟩ rfl;exact⟨Z,Keeps.refl _ _⟩
 match p,H,I with
 |[],H,I=>cases H;exact (Tryz.bytes_Index_none p1 p2 s.length c1 c2 w).mono fun O w' h=>key _ O w' h rfl
 |[c],H,I=>
  obtain⟨hne,H⟩:=zm (show chk (!zS s) (some (zvi s c 0))=some r from H);cases H;obtain⟨b2,o2,rfl,j⟩:=I sI;have hc2':w.cell? ⟨b2,o2,none⟩=some (.int .u8 (c.toNat:Int)):=j 0 sI;rw[zvh]at key⊢;have hcc:(c.toNat:Int).toNat.toUInt8=c:=sI
  by_cases h0:0<s.length
  ·obtain⟨b,o,rfl,B⟩:=S h0;refine(Tryz.bytes_Index_one b o s.length c1 b2 o2 c2 (rowNums s) c.toNat w (Z9 _) B hc2').mono fun O w' h=>key _ O w' h ?_
   rw[qn,hcc]
  ·have hl:s=[]:=nF.1 oM;rw[hl]at hne;cases hne
 |c::d::t,H,I=>
  simp only[zBN]at H;split at H
  ·rename_i Z h2;cases H;exact (Tryz.bytes_Index_longer p1 p2 s.length c1 _ c2 w sI (mQ Z) (mQ h2)).mono fun O w' h=>key _ O w' h rfl
  ·rename_i Z h2;split at H
   ·rename_i Y;cases H;have Y:=mE Y;have J:0<(c::d::t).length:=sI
    obtain⟨b,o,rfl,B⟩:=S (by rw[Y];exact J);obtain⟨b2,o2,rfl,j⟩:=I J;rw[<-Y]at j h2⊢;refine(Tryz.bytes_Index_same b o c1 b2 o2 c2 s.length (rowNums s) (rowNums (c::d::t)) w (by rw[Y];simp) (mQ h2) (Z9 _) (by rw[Z9,Y]) B j).mono fun O w' h=>key _ O w' h ?_
    rw[qn,qn];cases(c::d::t==s)<;>rfl
   ·rename_i Y;obtain⟨hc,H⟩:=zm H;cases H;have h1':¬s.length<(c::d::t).length:=fun hh=>by rw[Nat.blt_eq.mpr hh]at Z;cases Z
    have J:0<(c::d::t).length:=sI
    have h0:0<s.length:=oM
    obtain⟨b,o,rfl,B⟩:=S h0;obtain⟨b2,o2,rfl,j⟩:=I J;obtain⟨m,hm⟩:=(gd R w hG.1.1.1 W.ro).maxLen;refine(Tryz.bytes_Index_at ⟨b,o,none⟩ ⟨b2,o2,none⟩ s.length c1 (c::d::t).length c2 (rowNums s) (rowNums (c::d::t)) m w (Z9 _) (Z9 _) (zaB _) (zaB _)
     (fun i hi=>by rw[Lib.add_plain'];exact B i hi) (fun i hi=>by rw[Lib.add_plain'];exact j i hi) hc1 (Nat.blt_eq.mp hc) (mQ h2) hm).mono fun O w' ⟨q1,q,q2⟩=>?_
    rw[qn,qn]at q1;exact⟨q1,by rw[q2];exact Keeps.drewN _ _⟩
  ·cases H
theorem zne:SoundC Tryz.prog GP4 ziN:=zqJ kR (Value.int .i64) (fun _ _ _=>rfl) zvX
theorem zat(n:Nat):Builtin.zeroCells (Value.int .u8 0).cells n=(List.replicate n (Value.int .u8 0)).toArray:=by
 apply nW;apply uAN;intro i;unfold Builtin.zeroCells;have hc:(Value.int .u8 0).cells= #[Value.int .u8 0]:=rfl;rw[hc];simp[List.getElem?_replicate,Nat.mod_one];by_cases h:i<n
 ·simp[h]
 ·simp[h]
theorem zsM:∃j,Tryz.prog.info? 5=some j/\j.size=1/\j.bytes=1/\j.zero=some (.int .u8 0):=by
 have h:(match Tryz.prog.info? 5 with
  |some i=>Nat.beq i.size 1&&(Nat.beq i.bytes 1&&(match i.zero with
   |some (.int .u8 z)=>decide (z=0)
   |_=>false))
  |none=>false)=true:=kR
 split at h
 ·rename_i i hi;simp only[mF]at h;obtain⟨H,I,B⟩:=h;refine⟨i,hi,mE H,mE I,?_⟩;split at B
  ·rename_i z J;rw[J,of_decide_eq_true B]
  ·cases B
 ·cases h
theorem zsg(cap:Nat)(w:World):Calls Tryz.prog 38 #[.slice none 0 cap] w fun e w'=>e=.returned (.slice none 0 0)/\w'=w:=by
 have j:∀(w:World)(a:Option Addr)(n c:Nat),(binOp .eql 22 (.slice a n c) (.slice none 0 0)).run Tryz.prog w=.ok (.bool a.isNone) w:=fun w a n c=>Lib.run_eql_slice_nil w 22 5 a n c 0 0 kR
 go_enter Tryz.func38,Tryz.ntmps38
 go_wp2
 go_ret
 exact⟨rfl,rfl⟩
theorem ziA(a:Addr)(n c:Nat)(w:World)(v:Value)(B:World)(j:∀ty,(Builtin.append_ #[22,22] ty #[.slice (some ⟨w.heap.size,0,none⟩) 0 0,.slice (some a) n c]).run Tryz.prog (w.alloc (.cells #[] 5))=.ok v B):Calls Tryz.prog 38 #[.slice (some a) n c] w fun e w'=>e=.returned v/\w'=B:=by
 have H:∀(w:World)(a:Option Addr)(n c:Nat),(binOp .eql 22 (.slice a n c) (.slice none 0 0)).run Tryz.prog w=.ok (.bool a.isNone) w:=fun w a n c=>Lib.run_eql_slice_nil w 22 5 a n c 0 0 kR
 go_enter Tryz.func38,Tryz.ntmps38
 go_wp2_with (at_builtin;refine Lib.wpList_append_run _ rfl _ _ _ _ rfl _ _ rfl rfl _ _ (j _) ?_)
 all_goals (go_ret;exact⟨rfl,rfl⟩)
def d1b(a:List AV)(h:Heap):Option uAU:=match a with
 |[v]=>yT h (un v)
 |_=>none
theorem zyM{j:List AV}{h:Heap}{l:uAU}(e:d1b j h=some l){R:Ro}{G:List Res}{w:World}{vs:List Value}(W:WRel R G h w)(B:RelL (Am.look G h) R j vs):
  ∃p c,vs=[.slice p l.length c]/\l.length<=c/\Lib.BytesIn w p l.length (rowNums l):=by
 unfold d1b at e;split at e
 ·obtain⟨u,O,rfl,J,rfl⟩:=B;obtain⟨p,c,rfl,H,I⟩:=Ky W e (Zw J);exact⟨p,c,rfl,H,I⟩
 ·cases e
def zbL:Con:=zu2 38 d1b (fun l=>chk (Nat.ble l.length 1000000000000) (some (.bytes 5 l))) (fun i=>.rw i)
theorem ziQ{w:World}{ob:Obj}{a:Addr}{v:Value}(h:w.cell? a=some v):(w.alloc ob).cell? a=some v:=by
 have j:a.block<w.heap.size:=by
  rcases Nat.lt_or_ge a.block w.heap.size with h'|h'
  ·exact h'
  ·exfalso;unfold World.cell? at h;rw[Array.getElem?_eq_none h']at h;cases h
 have e:(w.alloc ob).heap[a.block]? =w.heap[a.block]? :=by show(w.heap.push ob)[a.block]? =w.heap[a.block]?;rw[Array.getElem?_push,if_neg oM]
 unfold World.cell? at h⊢;rw[e];exact h
theorem zdb:SoundC Tryz.prog GP4 zbL:=X1 (jk kR) fun args h l ao R G w vs hd hs hG W hr=>by
 obtain⟨hc,hs⟩:=zm hs;cases hs;have hc:=mQ hc;obtain⟨p,cap,rfl,hcap,hb⟩:=zyM hd W hr;have hp:∀(w:World)(ob:Obj),(w.alloc ob).heap[w.heap.size]? =some ob:=fun w ob=>by show(w.heap.push ob)[w.heap.size]? =some ob;rw[Array.getElem?_push_size]
 obtain⟨Y,hi,e1,e2,e3⟩:=zsM;by_cases h0:0<l.length
 ·obtain⟨b,o,rfl,O⟩:=hb h0;have hap:∀ty,(Builtin.append_ #[22,22] ty #[.slice (some ⟨w.heap.size,0,none⟩) 0 0,.slice (some ⟨b,o,none⟩) l.length cap]).run Tryz.prog (w.alloc (.cells #[] 5))=_:=fun ty=>
   run_append_grow (P:=Tryz.prog) (w.alloc (.cells #[] 5)) 22 ty 5 Y (.int .u8 0) kR hi e3 ⟨w.heap.size,0,none⟩ 0 0 [] sI (by intro j v B;simp at B) ⟨b,o,none⟩ l.length cap (l.map u8V) (by rw[nN,e1,mX])
    (fun j v B=>by
     have J:j<l.length:=by have:=(mG.1 B).1;simpa using this
     rw[jJ];have Z:=ziQ (ob:=.cells #[] 5) (O j J);have h2:(rowNums l).getD j 0=(l[j].toNat:Int):=by rw[mN];unfold rowNums;rw[nK,mJ J];rfl
     rw[Z,h2];rw[nK,mJ J]at B;exact B)
    oM oM (growslice_fits oM (by rw[e2];omega))
  have S:(w.alloc (.cells #[] 5)).heap.size=w.heap.size+1:=by show(w.heap.push _).size=_;rw[Array.size_push]
  have hge:=grownCap_ge (w.alloc (.cells #[] 5)) (0+l.length) 0 5;refine(ziA ⟨b,o,none⟩ l.length cap w _ _ hap).mono fun e' w' ⟨I,H⟩=>?_
  generalize grownCap (w.alloc (.cells #[] 5)) (0+l.length) 0 5=C at I H hge;rw[S,uAn]at I;refine⟨_,⟨w.heap.size+1,false,C,[w.heap.size+1]⟩,I,?_,sI,fun L'=>?_,fun L' U=>⟨_,U,(fun h=>by cases h),fun _=>rfl⟩⟩
  ·rw[H];exact Keeps.of_below ((((Below.refl _ _).alloc (mH _) _).drew).alloc (by show w.heap.size<=(w.alloc (.cells #[] 5)).heap.size;rw[S];omega) _)
  ·rw[H];refine .inr ⟨rfl,rfl,(by show l.length<=C;omega),l.map u8V,List.replicate (C-l.length) (.int .u8 0),(0,0),?_,rfl,sI,by simp;omega,mH _,fun j _ B=>oM⟩;have h3:=hp (w.alloc (.cells #[] 5)).drew (.cells (([]:List Value).toArray++(l.map u8V).toArray++Builtin.zeroCells (Value.int .u8 0).cells (C-(0+l.length))) 5);rw[show(w.alloc (.cells #[] 5)).drew.heap.size=w.heap.size+1 from S]at h3;refine h3.trans ?_;rw[zat,uAn];have e:([]:List Value).toArray++(l.map u8V).toArray++(List.replicate (C-l.length) (Value.int .u8 0)).toArray=(l.map u8V++List.replicate (C-l.length) (Value.int .u8 0)).toArray:=by apply nW;simp
   rw[e]
 ·have hl:l=[]:=nF.1 oM;subst hl;cases p with
  |none=>refine(zsg cap w).mono fun e' w' ⟨I,H⟩=>⟨_,⟨0,true,0,[]⟩,I,by rw[H];exact Keeps.refl _ _,sI,fun L'=>.inl ⟨rfl,rfl,rfl,rfl⟩,fun L' U=>⟨_,U,fun _=>⟨rfl,rfl⟩,fun h=>by cases h⟩⟩
  |some a=>
   refine(ziA a 0 cap w (.slice (some ⟨w.heap.size,0,none⟩) 0 0) (w.alloc (.cells #[] 5)) fun ty=>?_).mono fun e' w' ⟨I,H⟩=>⟨_,⟨w.heap.size,false,0,[w.heap.size]⟩,I,?_,sI,fun L'=>?_,fun L' U=>⟨_,U,(fun h=>by cases h),fun _=>rfl⟩⟩
   ·have Z:=run_append_room (P:=Tryz.prog) (w:=w.alloc (.cells #[] 5)) 22 ty 5 Y kR hi w.heap.size 0 0 #[] (hp _ _) a 0 cap [] sI (by intro j u B;simp at B) (by intro u hu;cases hu) oM sI;rw[Z];congr 1;have e:(List.take (0*Y.size) (#[]:Array Value).toList++[]++List.drop (0*Y.size+([]:List Value).length) (#[]:Array Value).toList).toArray= #[]:=sI
    rw[e];exact setRow_self _ _ _ _ _ (hp w (.cells #[] 5))
   ·rw[H];exact Keeps.of_below ((Below.refl _ _).alloc (mH _) _)
   ·rw[H];exact .inr ⟨rfl,rfl,mH _,[],[],(0,0),hp _ _,rfl,rfl,sI,mH _,fun j _ B=>oM⟩
def zCV:List (uAU×Int):=[([65,67,67,69,83,83],1),([65,68,86,65,78,67,73,78,71],1),([65,70,84,69,82],1),([65,76,76],1),([65,76,80,72,65,66,69,84,73,67],1),([65,76,83,79],1),([65,76,84,69,82,78,65,84,69],1),([65,78,68],1),([65,78,89],1),([65,82,69],1),([65,82,69,65],1),([65,82,69,65,83],1),([65,83,67,69,78,68,73,78,71],1),([65,83,83,73,71,78],1),([65,84],1),([65,87,65,89,45,70,82,79,77,45,90,69,82,79],1),([66,69,70,79,82,69],1),([66,73,78,65,82,89],1),([66,76,65,78,75],1),([66,76,79,67,75],1),([66,89],1),([67,70],1),([67,72],1),([67,72,65,82,65,67,84,69,82],1),([67,72,65,82,65,67,84,69,82,83],1),([67,76,65,83,83],1),([67,79,76,85,77,78],1),([67,79,77,80],1),([67,79,77,80,45,51],1),([67,79,77,80,85,84,65,84,73,79,78,65,76],1),([67,79,77,80,85,84,65,84,73,79,78,65,76,45,51],1),([67,79,78,70,73,71,85,82,65,84,73,79,78],1),([67,79,78,84,65,73,78,83],1),([67,79,78,84,69,78,84],1),([67,79,78,84,82,79,76],1),([67,79,78,84,82,79,76,83],1),([67,79,78,86,69,82,84,73,78,71],1),([67,79,80,89],1),([67,79,82,82],1),([67,79,82,82,69,83,80,79,78,68,73,78,71],1)]
def zCU:List (uAU×Int):=[([67,79,85,78,84],1),([68,65,84,65],1),([68,69],1),([68,69,67,76,65,82,65,84,73,86,69,83],1),([68,69,76,73,77,73,84,69,68],1),([68,69,76,73,77,73,84,69,82],1),([68,69,80,69,78,68,73,78,71],1),([68,69,83,67,69,78,68,73,78,71],1),([68,69,84,65,73,76],1),([68,73,86,73,83,73,79,78],1),([68,79,87,78],1),([68,85,80,76,73,67,65,84,69,83],1),([68,89,78,65,77,73,67],1),([69,76,83,69],1),([69,78,68],1),([69,78,68,45,65,68,68],1),([69,78,68,45,67,65,76,76],1),([69,78,68,45,67,79,77,80,85,84,69],1),([69,78,68,45,68,69,76,69,84,69],1),([69,78,68,45,68,73,86,73,68,69],1),([69,78,68,45,69,86,65,76,85,65,84,69],1),([69,78,68,45,73,70],1),([69,78,68,45,77,85,76,84,73,80,76,89],1),([69,78,68,45,80,69,82,70,79,82,77],1),([69,78,68,45,82,69,65,68],1),([69,78,68,45,82,69,84,85,82,78],1),([69,78,68,45,82,69,87,82,73,84,69],1),([69,78,68,45,83,69,65,82,67,72],1),([69,78,68,45,83,84,65,82,84],1),([69,78,68,45,83,84,82,73,78,71],1),([69,78,68,45,83,85,66,84,82,65,67,84],1),([69,78,68,45,85,78,83,84,82,73,78,71],1),([69,78,68,45,87,82,73,84,69],1),([69,78,86,73,82,79,78,77,69,78,84],1),([69,81,85,65,76],1),([69,82,82,79,82],1),([69,88,67,69,80,84,73,79,78],1),([69,88,84,69,78,68],1),([70,65,76,83,69],1),([70,68],1)]
def zCT:List (uAU×Int):=[([70,73,76,69],1),([70,73,76,69,45,67,79,78,84,82,79,76],1),([70,73,76,76,69,82],1),([70,73,78,65,76],1),([70,73,82,83,84],1),([70,79,79,84,73,78,71],1),([70,79,82],1),([70,82,79,77],1),([71,73,86,73,78,71],1),([71,82,69,65,84,69,82],1),([71,82,79,85,80],1),([72,69,65,68,73,78,71],1),([73,45,79],1),([73,45,79,45,67,79,78,84,82,79,76],1),([73,68,69,78,84,73,70,73,67,65,84,73,79,78],1),([73,78],1),([73,78,68,69,88,69,68],1),([73,78,68,73,67,65,84,69],1),([73,78,73,84,73,65,76],1),([73,78,80,85,84],1),([73,78,80,85,84,45,79,85,84,80,85,84],1),([73,78,84,79],1),([73,78,86,65,76,73,68],1),([73,83],1),([74,85,83,84],1),([74,85,83,84,73,70,73,69,68],1),([75,69,89],1),([76,65,66,69,76],1),([76,65,83,84],1),([76,69,65,68,73,78,71],1),([76,69,70,84],1),([76,69,83,83],1),([76,73,77,73,84],1),([76,73,77,73,84,83],1),([76,73,78,69],1),([76,73,78,69,83],1),([76,73,78,75,65,71,69],1),([77,79,68,69],1),([78,69,65,82,69,83,84,45,65,87,65,89,45,70,82,79,77,45,90,69,82,79],1),([78,69,65,82,69,83,84,45,69,86,69,78],1)]
def zCS:List (uAU×Int):=[([78,69,65,82,69,83,84,45,84,79,87,65,82,68,45,90,69,82,79],1),([78,69,71,65,84,73,86,69],1),([78,69,88,84],1),([78,79],1),([78,79,84],1),([78,85,77,66,69,82],1),([78,85,77,69,82,73,67],1),([79,67,67,85,82,83],1),([79,70],1),([79,70,70],1),([79,77,73,84,84,69,68],1),([79,78],1),([79,80,84,73,79,78,65,76],1),([79,82],1),([79,82,68,69,82],1),([79,82,71,65,78,73,90,65,84,73,79,78],1),([79,84,72,69,82],1),([79,85,84,80,85,84],1),([79,86,69,82,70,76,79,87],1),([80,65,67,75,69,68,45,68,69,67,73,77,65,76],1),([80,65,71,69],1),([80,70],1),([80,72],1),([80,73,67],1),([80,73,67,84,85,82,69],1),([80,76,85,83],1),([80,79,73,78,84,69,82],1),([80,79,83,73,84,73,86,69],1),([80,82,79,67,69,68,85,82,69],1),([80,82,79,67,69,69,68],1),([80,82,79,71,82,65,77],1),([80,82,79,71,82,65,77,45,73,68],1),([80,82,79,72,73,66,73,84,69,68],1),([82,65,78,68,79,77],1),([82,68],1),([82,69,67,79,82,68],1),([82,69,67,79,82,68,83],1),([82,69,68,69,70,73,78,69,83],1),([82,69,70,69,82,69,78,67,69],1),([82,69,76,65,84,73,86,69],1)]
def zCR:List (uAU×Int):=[([82,69,77,65,73,78,68,69,82],1),([82,69,78,65,77,69,83],1),([82,69,80,76,65,67,73,78,71],1),([82,69,80,79,82,84],1),([82,69,80,79,82,84,73,78,71],1),([82,69,80,79,82,84,83],1),([82,69,83,69,84],1),([82,70],1),([82,72],1),([82,73,71,72,84],1),([82,79,85,78,68,69,68],1),([82,85,78],1),([83,67,82,69,69,78],1),([83,68],1),([83,69,67,84,73,79,78],1),([83,69,76,69,67,84],1),([83,69,78,84,69,78,67,69],1),([83,69,80,65,82,65,84,69],1),([83,69,81,85,69,78,67,69],1),([83,69,81,85,69,78,84,73,65,76],1),([83,73,71,78],1),([83,73,90,69],1),([83,79,85,82,67,69],1),([83,84,65,78,68,65,82,68],1),([83,84,65,84,85,83],1),([83,85,77],1),([84,65,76,76,89,73,78,71],1),([84,69,83,84],1),([84,72,65,78],1),([84,72,69,78],1),([84,72,82,79,85,71,72],1),([84,72,82,85],1),([84,73,77,69,83],1),([84,79],1),([84,79,87,65,82,68,45,71,82,69,65,84,69,82],1),([84,79,87,65,82,68,45,76,69,83,83,69,82],1),([84,82,65,73,76,73,78,71],1),([84,82,85,69],1),([84,82,85,78,67,65,84,73,79,78],1),([84,89,80,69],1)]
def zCQ:List (uAU×Int):=[([85,78,84,73,76],1),([85,80],1),([85,80,79,78],1),([85,83,65,71,69],1),([85,83,73,78,71],1),([86,65,76,85,69],1),([86,65,76,85,69,83],1),([86,65,82,89,73,78,71],1),([87,72,69,78],1),([87,73,84,72],1),([87,79,82,75,73,78,71,45,83,84,79,82,65,71,69],1),([65,67,67,69,80,84],2),([65,68,68],2),([65,76,84,69,82],2),([67,65,76,76],2),([67,65,78,67,69,76],2),([67,76,79,83,69],2),([67,79,77,80,85,84,69],2),([67,79,78,84,73,78,85,69],2),([68,69,76,69,84,69],2),([68,73,83,80,76,65,89],2),([68,73,86,73,68,69],2),([69,86,65,76,85,65,84,69],2),([69,88,73,84],2),([71,69,78,69,82,65,84,69],2),([71,79],2),([73,70],2),([73,78,73,84,73,65,76,73,90,69],2),([73,78,73,84,73,65,84,69],2),([73,78,83,80,69,67,84],2),([77,69,82,71,69],2),([77,79,86,69],2),([77,85,76,84,73,80,76,89],2),([79,80,69,78],2),([80,69,82,70,79,82,77],2),([82,69,65,68],2),([82,69,76,69,65,83,69],2),([82,69,84,85,82,78],2),([82,69,87,82,73,84,69],2),([83,69,65,82,67,72],2)]
def zCP:List (uAU×Int):=[([83,69,84],2),([83,79,82,84],2),([83,84,65,82,84],2),([83,84,79,80],2),([83,84,82,73,78,71],2),([83,85,66,84,82,65,67,84],2),([83,85,80,80,82,69,83,83],2),([84,69,82,77,73,78,65,84,69],2),([85,78,83,84,82,73,78,71],2),([85,83,69],2),([87,82,73,84,69],2),([90,69,82,79],3),([90,69,82,79,83],3),([90,69,82,79,69,83],3),([83,80,65,67,69],3),([83,80,65,67,69,83],3),([72,73,71,72,45,86,65,76,85,69],3),([72,73,71,72,45,86,65,76,85,69,83],3),([76,79,87,45,86,65,76,85,69],3),([76,79,87,45,86,65,76,85,69,83],3),([81,85,79,84,69],3),([81,85,79,84,69,83],3)]
def zkW:List (uAU×Int):=zCV++(zCU++(zCT++(zCS++(zCR++(zCQ++(zCP))))))
def eqW:uAU->uAU->Bool
 |[],[]=>true
 |a::r,b::s=>cond (Nat.beq a.toNat b.toNat) (eqW r s) false
 |_,_=>false
def ztN(l:uAU):List (uAU×Int)->Int
 |[]=>0
 |(w,n)::r=>cond (eqW l w) n (ztN l r)
theorem zy1:Bas Tryz.prog GP4 zvn:=⟨mixed,fun R h=>zEY.hgl R h.1,zso.hst⟩
def zEp:List (AV×AV):=zkW.map fun x=>(.str x.1,.int .u8 x.2)
def zwK:RunW:=RunRow.runW [⟨126,[fields_con],[],[]⟩] [] (fun _=>false) 4000 kR kR [] kR
theorem zzl:zfj Tryz.prog zvn zwK 1 126 [] []=some ⟨.map 0,[some (.mp zEp)]⟩:=kR
theorem zwo:∀C∈[fields_con],SoundC Tryz.prog GP4 C:=mS.2 ⟨zmF,fun _ h=>by cases h⟩
def zlf:Con:=zu2 126 (fun a _=>match a with
 |[]=>some ()
 |_=>none) (fun _=>some (.mp zEp)) .map
theorem zut:SoundC Tryz.prog GP4 zlf:=zu6 (Ym zy1 zwK (fun g C j=>by
 rcases mU.1 j with j|j
 ·cases j
 ·exact RunRow.sound (l:=[⟨126,[fields_con],[],[]⟩]) (mS.2 ⟨zwo,fun _ h=>by cases h⟩) g C j) 1 126) kR zzl
def zlW:List uAU:=[[84],[78],[65],[66],[67],[68],[69],[70],[88],[89],[90],[80],[73],[83],[87],[75],[90,69,82,79],[90,69,82,79,83],[83,80,65,67,69],[83,80,65,67,69,83],[67,72,65,82,65,67,84,69,82,83],[70,73,82,83,84],[65,76,76],[76,69,65,68,73,78,71],[83,73,90,69],[68,69,76,73,77,73,84,69,68],[73,78,84,79],[79,82],[67,79,85,78,84],[80,79,73,78,84,69,82],[84,65,76,76,89,73,78,71],[82,69,80,76,65,67,73,78,71],[85,78,83,84,82,73,78,71],[83,84,82,73,78,71],[79,86,69,82,70,76,79,87],[68,69,76,73,77,73,84,69,82],[66,89],[66,69,70,79,82,69],[65,70,84,69,82],[73,78,73,84,73,65,76],[84,79],[73,78],[87,73,84,72],[81,85,79,84,69],[65,78,68],[78,79,84],[73,83],[78,85,77,69,82,73,67],[66,73,71],[84,72,82,85],[84,72,82,79,85,71,72],[72,73,71,72,45,86,65,76,85,69],[82],[79,70],[],[40],[41],[43],[45],[42],[47],[42,42],[58],[61],[66,45,49],[53],[71],[88,65],[88,66],[88,67],[88,68],[88,69],[88,70],[88,71],[88,72],[88,73],[65,76,80,72,65,66,69,84,73,67],[65,76,80,72,65,78,85,77,69,82,73,67],[65,76,80,72,65,78,85,77,69,82,73,67,45,69,68,73,84,69,68],[78,85,77,69,82,73,67,45,69,68,73,84,69,68],[68,65,84,65],[77],[70,79,82],[67,79,78,86,69,82,84,73,78,71]]
theorem zys:∀(a b:uAU),eqW a b=true->a=b
 |[],[],_=>rfl
 |a::r,b::s,h=>by
  unfold eqW at h;cases hb:Nat.beq a.toNat b.toNat with
  |false=>rw[hb]at h;cases h
  |true=>rw[hb]at h;rw[UInt8.toNat_inj.1 (mE hb),zys r s h]
 |[],_::_,h=>by cases h
 |_::_,[],h=>by cases h
def zxU(l:uAU):List uAU->Bool
 |[]=>false
 |w::r=>cond (eqW l w) true (zxU l r)
theorem ztG{l:uAU}:∀{j:List uAU},zxU l j=true->l∈j
 |[],h=>by cases h
 |w::r,h=>by
  unfold zxU at h;cases hb:eqW l w with
  |true=>rw[zys _ _ hb];exact nR
  |false=>rw[hb]at h;exact nE _ (ztG h)
def zk0(a:List AV)(h:Heap):Option uAU:=match a,h with
 |[.str l],[]=>some l
 |_,_=>none
def zsG:Con:=Con6.c ⟨70,uAU,Int,zk0,fun l=>chk (zxU l zlW) (some (ztN l zkW)),fun _ n=>⟨.int .u8 n,[]⟩⟩
def zCw:RunW:=RunRow.runW [⟨70,[zlf],[],[]⟩] [] (fun _=>false) 4000 kR kR [] kR
def zry:Option Out->Int->Bool
 |some ⟨.int .u8 n,[]⟩,m=>decide (n=m)
 |_,_=>false
theorem zvf{o:Option Out}{m:Int}(h:zry o m=true):o=some ⟨.int .u8 m,[]⟩:=by
 unfold zry at h;split at h
 ·rw[of_decide_eq_true h]
 ·cases h
theorem zBx:zlW.all (fun l=>zry (zfj Tryz.prog zvn zCw 1 70 [.str l] []) (ztN l zkW))=true:=kR
theorem zuk:SoundC Tryz.prog GP4 zsG:=by
 intro H h l r j I;have j:zk0 H h=some l:=j;unfold zk0 at j;split at j
 ·cases j;obtain⟨O,I⟩:=zm (show chk (zxU l zlW) (some (ztN l zkW))=some r from I);cases I;have J:=zvf (mT.1 zBx l (ztG O));exact Ym zy1 zCw (fun g C B=>by
   rcases mU.1 B with B|B
   ·cases B
   ·exact RunRow.sound (l:=[⟨70,[zlf],[],[]⟩]) (mS.2 ⟨mS.2 ⟨zut,fun _ h=>by cases h⟩,fun _ h=>by cases h⟩) g C B) 1 70 [.str l] [] ([.str l],[]) _ rfl J
 ·cases j
theorem zpG(cap:Nat)(w:World):Calls Tryz.prog 98 #[.slice none 0 cap] w fun e w'=>e=.returned (.slice none 0 0)/\w'=w:=by
 have j:∀(w:World)(a:Option Addr)(n c:Nat),(binOp .eql 22 (.slice a n c) (.slice none 0 0)).run Tryz.prog w=.ok (.bool a.isNone) w:=fun w a n c=>Lib.run_eql_slice_nil w 22 5 a n c 0 0 kR
 go_enter Tryz.func98,Tryz.ntmps98
 go_wp2
 go_ret
 exact⟨rfl,rfl⟩
theorem zeZ(a:Addr)(n c:Nat)(w:World)(v:Value)(B:World)(j:∀ty,(Builtin.append_ #[22,22] ty #[.slice (some ⟨w.heap.size,0,none⟩) 0 0,.slice (some a) n c]).run Tryz.prog (w.alloc (.cells #[] 5))=.ok v B):Calls Tryz.prog 98 #[.slice (some a) n c] w fun e w'=>e=.returned v/\w'=B:=by
 have H:∀(w:World)(a:Option Addr)(n c:Nat),(binOp .eql 22 (.slice a n c) (.slice none 0 0)).run Tryz.prog w=.ok (.bool a.isNone) w:=fun w a n c=>Lib.run_eql_slice_nil w 22 5 a n c 0 0 kR
 go_enter Tryz.func98,Tryz.ntmps98
 go_wp2_with (at_builtin;refine Lib.wpList_append_run _ rfl _ _ _ _ rfl _ _ rfl rfl _ _ (j _) ?_)
 all_goals (go_ret;exact⟨rfl,rfl⟩)
def zgT:Con:=zu2 98 d1b (fun l=>chk (Nat.ble l.length 1000000000000) (some (.bytes 5 l))) (fun i=>.rw i)
theorem zkU:SoundC Tryz.prog GP4 zgT:=X1 (jk kR) fun args h l ao R G w vs hd hs hG W hr=>by
 obtain⟨hc,hs⟩:=zm hs;cases hs;have hc:=mQ hc;obtain⟨p,cap,rfl,hcap,hb⟩:=zyM hd W hr;have hp:∀(w:World)(ob:Obj),(w.alloc ob).heap[w.heap.size]? =some ob:=fun w ob=>by show(w.heap.push ob)[w.heap.size]? =some ob;rw[Array.getElem?_push_size]
 obtain⟨Y,hi,e1,e2,e3⟩:=zsM;by_cases h0:0<l.length
 ·obtain⟨b,o,rfl,O⟩:=hb h0;have hap:∀ty,(Builtin.append_ #[22,22] ty #[.slice (some ⟨w.heap.size,0,none⟩) 0 0,.slice (some ⟨b,o,none⟩) l.length cap]).run Tryz.prog (w.alloc (.cells #[] 5))=_:=fun ty=>
   run_append_grow (P:=Tryz.prog) (w.alloc (.cells #[] 5)) 22 ty 5 Y (.int .u8 0) kR hi e3 ⟨w.heap.size,0,none⟩ 0 0 [] sI (by intro j v B;simp at B) ⟨b,o,none⟩ l.length cap (l.map u8V) (by rw[nN,e1,mX])
    (fun j v B=>by
     have J:j<l.length:=by have:=(mG.1 B).1;simpa using this
     rw[jJ];have Z:=ziQ (ob:=.cells #[] 5) (O j J);have h2:(rowNums l).getD j 0=(l[j].toNat:Int):=by rw[mN];unfold rowNums;rw[nK,mJ J];rfl
     rw[Z,h2];rw[nK,mJ J]at B;exact B)
    oM oM (growslice_fits oM (by rw[e2];omega))
  have S:(w.alloc (.cells #[] 5)).heap.size=w.heap.size+1:=by show(w.heap.push _).size=_;rw[Array.size_push]
  have hge:=grownCap_ge (w.alloc (.cells #[] 5)) (0+l.length) 0 5;refine(zeZ ⟨b,o,none⟩ l.length cap w _ _ hap).mono fun e' w' ⟨I,H⟩=>?_
  generalize grownCap (w.alloc (.cells #[] 5)) (0+l.length) 0 5=C at I H hge;rw[S,uAn]at I;refine⟨_,⟨w.heap.size+1,false,C,[w.heap.size+1]⟩,I,?_,sI,fun L'=>?_,fun L' U=>⟨_,U,(fun h=>by cases h),fun _=>rfl⟩⟩
  ·rw[H];exact Keeps.of_below ((((Below.refl _ _).alloc (mH _) _).drew).alloc (by show w.heap.size<=(w.alloc (.cells #[] 5)).heap.size;rw[S];omega) _)
  ·rw[H];refine .inr ⟨rfl,rfl,(by show l.length<=C;omega),l.map u8V,List.replicate (C-l.length) (.int .u8 0),(0,0),?_,rfl,sI,by simp;omega,mH _,fun j _ B=>oM⟩;have h3:=hp (w.alloc (.cells #[] 5)).drew (.cells (([]:List Value).toArray++(l.map u8V).toArray++Builtin.zeroCells (Value.int .u8 0).cells (C-(0+l.length))) 5);rw[show(w.alloc (.cells #[] 5)).drew.heap.size=w.heap.size+1 from S]at h3;refine h3.trans ?_;rw[zat,uAn];have e:([]:List Value).toArray++(l.map u8V).toArray++(List.replicate (C-l.length) (Value.int .u8 0)).toArray=(l.map u8V++List.replicate (C-l.length) (Value.int .u8 0)).toArray:=by apply nW;simp
   rw[e]
 ·have hl:l=[]:=nF.1 oM;subst hl;cases p with
  |none=>refine(zpG cap w).mono fun e' w' ⟨I,H⟩=>⟨_,⟨0,true,0,[]⟩,I,by rw[H];exact Keeps.refl _ _,sI,fun L'=>.inl ⟨rfl,rfl,rfl,rfl⟩,fun L' U=>⟨_,U,fun _=>⟨rfl,rfl⟩,fun h=>by cases h⟩⟩
  |some a=>
   refine(zeZ a 0 cap w (.slice (some ⟨w.heap.size,0,none⟩) 0 0) (w.alloc (.cells #[] 5)) fun ty=>?_).mono fun e' w' ⟨I,H⟩=>⟨_,⟨w.heap.size,false,0,[w.heap.size]⟩,I,?_,sI,fun L'=>?_,fun L' U=>⟨_,U,(fun h=>by cases h),fun _=>rfl⟩⟩
   ·have Z:=run_append_room (P:=Tryz.prog) (w:=w.alloc (.cells #[] 5)) 22 ty 5 Y kR hi w.heap.size 0 0 #[] (hp _ _) a 0 cap [] sI (by intro j u B;simp at B) (by intro u hu;cases hu) oM sI;rw[Z];congr 1;have e:(List.take (0*Y.size) (#[]:Array Value).toList++[]++List.drop (0*Y.size+([]:List Value).length) (#[]:Array Value).toList).toArray= #[]:=sI
    rw[e];exact setRow_self _ _ _ _ _ (hp w (.cells #[] 5))
   ·rw[H];exact Keeps.of_below ((Below.refl _ _).alloc (mH _) _)
   ·rw[H];exact .inr ⟨rfl,rfl,mH _,[],[],(0,0),hp _ _,rfl,rfl,sI,mH _,fun j _ B=>oM⟩
end Go.Proofs.C06
