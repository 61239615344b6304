/-
  A part of the proof of the laws.
-/
import Derived.Test.YtodebhabandljaaGreatDoorIn
import Derived.Test.YtodebhabandljaaGreatDoorSh
import Derived.Test.YtodebhabandljaaGreatDoorShelf
import Derived.Shelf.Spec.SlicesGrow
import Derived.Lib.LazyBuf
section
set_option maxHeartbeats 4000000
set_option maxRecDepth 100000
namespace Go.Proofs.C06
open Go Go.RowKit Go.Vc Go.Am
def GP4(R:Ro):Prop:=GP3 R/\∃T fr,R 0=some (.cells (Lib.asciiSpaceTab.map fun z=>Value.int .u8 z).toArray T fr)
theorem Jh:Bas Tryz.prog GP4 gl3:=⟨mixed,fun _ h=>zyY.hgl _ h.1,fun R R' j h=>⟨zyY.hst R R' j h.1,by obtain⟨T,fr,e⟩:=h.2;exact⟨T,fr,j _ _ e⟩⟩⟩
theorem qx{C:Con}(h:SoundC Tryz.prog GP3 C):SoundC Tryz.prog GP4 C:=fun y hh x r B H=>
 let⟨h1,h2⟩:=h y hh x r B H
 ⟨h1,fun R G w vs I W j=>h2 R G w vs I.1 W j⟩
def d1s(a:List AV)(_:Heap):Option uAS:=match a with
 |[.str l]=>some l
 |_=>none
theorem zAG{a:List AV}{h:Heap}{l:uAS}(e:d1s a h=some l):a=[.str l]:=by
 unfold d1s at e;split at e
 ·cases e;rfl
 ·cases e
def fields_con:Con:=zp0 100 d1s (fun l=>chk (l.all (fun b=>Nat.blt b.toNat 128)&&Nat.blt l.length 4294967281) (some (.strs 9 (Lib.fields l)))) (fun i=>.rwf i)
theorem zje:SoundC Tryz.prog GP4 fields_con:=Yx (jk (by kernel_rfl)) fun args h l ao R G w vs hd hs hG W hr=>by
 have e:=zAG hd;subst e;obtain⟨hc,hs⟩:=zm hs;cases hs;rw[kY]at hc;obtain⟨u,us,rfl,hu,hus⟩:=hr;have hus:us=[]:=hus;have hu:u=.string (bs l):=hu;subst hus hu;obtain⟨T,fr,hR⟩:=hG.2;have hw:=W.ro _ _ hR;have htab:Lib.TabIs Tryz.prog w "strings.asciiSpace" .u8 Lib.asciiSpaceTab:=by unfold Lib.TabIs World.var?;rw[show Tryz.prog.globalNamed "strings.asciiSpace" =some 0 from by kernel_rfl];simp[hw]
 have hbs:(bs l).data.toList=l:=by simp[bs]
 have hsz:(bs l).size=l.length:=by simp[bs,ByteArray.size]
 refine(Tryz.strings_Fields (bs l) w (by rw[hsz];exact mI hc.2) (fun j b hj=>?_) htab).mono fun e w' ⟨he,hw'⟩=>?_
 ·rw[hbs]at hj;exact mI (mK.1 hc.1 b (nK hj))
 ·rw[hbs]at he hw';refine⟨_,⟨w.heap.size,false,(Lib.fields l).length,[w.heap.size]⟩,he,by rw[hw'];exact Keeps.of_below ((Below.refl _ _).alloc (mA _) _),by simp,fun L'=>?_,fun L' hL=>?_⟩
  ·rw[hw'];refine .inr ⟨rfl,rfl,mA _,(Lib.fields l).map (fun l=>Value.string (bs l)),[],(0,0),?_,rfl,by simp,by simp,mA _,fun j _ hj=>by omega⟩;have hp:∀ob:Obj,(w.alloc ob).heap[w.heap.size]? =some ob:=fun ob=>by show(w.heap.push ob)[w.heap.size]? =some ob;rw[Array.getElem?_push_size]
   rw[hp,mM];rfl
  ·exact⟨_,hL,rfl,rfl,rfl⟩
end Go.Proofs.C06
namespace Go.Proofs.C06
open Go Go.RowKit Go.Vc Go.Am
def zmY:uAS->UInt8->Int->Int
 |[],_,_=> -1
 |b::l,c,n=>cond (Nat.beq b.toNat c.toNat) n (zmY l c (n+1))
theorem zpe:∀(l:uAS)(c:UInt8)(n:Int),0<=n->zmY l c n=(if Lib.indexByte l c== -1 then-1 else Lib.indexByte l c+n)/\ -1<=Lib.indexByte l c
 |[],_,_,_=>⟨rfl,Int.le_refl _⟩
 |b::l,c,n,hn=>by
  obtain⟨J,U⟩:=zpe l c (n+1) (by omega);unfold zmY Lib.indexByte;by_cases B:b=c
  ·subst B;simp
  ·have j:Nat.beq b.toNat c.toNat=false:=by
    cases hx:Nat.beq b.toNat c.toNat with
    |false=>rfl
    |true=>exact absurd (UInt8.toNat_inj.1 (kV hx)) B
   have y:(b==c)=false:=by simpa using B
   rw[j,cond_false,J,y];simp only[mR,if_false];by_cases H:Lib.indexByte l c= -1
   ·simp[H]
   ·have O:(Lib.indexByte l c== -1)=false:=by simpa using H
    simp only[O,mR,if_false];have I:((Lib.indexByte l c+1)== -1)=false:=by simp;omega
    simp only[I,mR,if_false];omega
theorem zgX(l:uAS)(c:UInt8):zmY l c 0=Lib.indexByte l c:=by
 obtain⟨h,_⟩:=zpe l c 0 (Int.le_refl _);rw[h];split
 ·rename_i h;exact (by simpa using h:Lib.indexByte l c= -1).symm
 ·omega
def Xg:Con:=zAg 92 d1R (fun x=>chk (!zW x.1) (some (zmY x.1 x.2.toNat.toUInt8 0))) (AV.int .i64)
theorem zbg:SoundC Tryz.prog GP4 Xg:=zeD (by kernel_rfl) (Value.int .i64) (fun _ _ _=>rfl) fun I h x r R G w vs O H _ W Z=>by
 obtain⟨y,H⟩:=zm H;cases H;obtain⟨p,c,rfl,hc,hb⟩:=zAI O W Z;rw[zgX];have key:∀(B:Ending)(w':World),(B=.returned (.int .i64 (Lib.indexByte x.1 x.2.toNat.toUInt8))/\w'=w)->B=.returned (.int .i64 (Lib.indexByte x.1 x.2.toNat.toUInt8))/\Keeps [] w w':=by rintro B w' ⟨U,rfl⟩;exact⟨U,Keeps.refl _ _⟩
 by_cases h0:0<x.1.length
 ·obtain⟨b,o,rfl,j⟩:=hb h0;refine(Tryz.bytes_IndexByte b o x.1.length c (rowNums x.1) x.2 w (yY _) j).mono fun B w' h=>key B w' ?_
  rw[ye]at h;exact h
 ·have J:x.1=[]:=mW.1 (by omega);rw[J]at y;cases y
end Go.Proofs.C06
namespace Go.Proofs.C06
open Go Go.RowKit Go.Vc Go.Am
def zyA(s p:uAS):Option Int:=match p with
 |[]=>some 0
 |[c]=>chk (!zW s) (some (zmY s c 0))
 |c::d::r=>match Nat.blt s.length (c::d::r).length,Nat.ble (c::d::r).length 9223372036854775807 with
  |true,true=>some (-1)
  |false,true=>match Nat.beq s.length (c::d::r).length with
   |true=>some (cond (c::d::r==s) 0 (-1))
   |false=>chk (Nat.blt s.length 4294967281) (some (Lib.index s (c::d::r)))
  |_,false=>none
def zfW:Con:=zAg 143 d2R (fun x=>zyA x.1 x.2) (AV.int .i64)
theorem zqJ:∀(U:List AV)(h:Heap)(x:uAS×uAS)(r:Int)(R:Ro)(G:List Res)(w:World)(vs:List Value),d2R U h=some x->zyA x.1 x.2=some r->GP4 R->WRel R G h w->RelL (Am.look G h) R U vs->
  Calls Tryz.prog 143 vs.toArray w fun J w'=>J=.returned (.int .i64 r)/\Keeps [] w w':=fun U h x r R G w vs hd B hG W hr=>by
 obtain⟨p1,c1,p2,c2,rfl,hc1,hc2,O,H⟩:=zAF hd W hr;obtain⟨s,p⟩:=x;have B:zyA s p=some r:=B;have O:Lib.BytesIn w p1 s.length (rowNums s):=O;have H:Lib.BytesIn w p2 p.length (rowNums p):=H;have key:∀(n:Int)(J:Ending)(w':World),(J=.returned (.int .i64 n)/\w'=w)->n=r->J=.returned (.int .i64 r)/\Keeps [] w w':=by rintro n J w' ⟨h1,rfl⟩ rfl;exact⟨h1,Keeps.refl _ _⟩
 match p,B,H with
 |[],B,H=>cases B;exact (Tryz.bytes_Index_none p1 p2 s.length c1 c2 w).mono fun J w' h=>key _ J w' h rfl
 |[c],B,H=>
  obtain⟨hne,B⟩:=zm (show chk (!zW s) (some (zmY s c 0))=some r from B);cases B;obtain⟨b2,o2,rfl,j⟩:=H (by simp);have hc2':w.cell? ⟨b2,o2,none⟩=some (.int .u8 (c.toNat:Int)):=j 0 (by simp);rw[zgX]at key⊢;have hcc:(c.toNat:Int).toNat.toUInt8=c:=by simp
  by_cases h0:0<s.length
  ·obtain⟨b,o,rfl,y⟩:=O h0;refine(Tryz.bytes_Index_one b o s.length c1 b2 o2 c2 (rowNums s) c.toNat w (yY _) y hc2').mono fun J w' h=>key _ J w' h ?_
   rw[ye,hcc]
  ·have hl:s=[]:=mW.1 (by omega);rw[hl]at hne;cases hne
 |c::d::t,B,H=>
  simp only[zyA]at B;split at B
  ·rename_i h1 h2;cases B;exact (Tryz.bytes_Index_longer p1 p2 s.length c1 _ c2 w (by simp) (mI h1) (mI h2)).mono fun J w' h=>key _ J w' h rfl
  ·rename_i h1 h2;split at B
   ·rename_i Z;cases B;have Z:=kV Z;have I:0<(c::d::t).length:=by simp
    obtain⟨b,o,rfl,y⟩:=O (by rw[Z];exact I);obtain⟨b2,o2,rfl,j⟩:=H I;rw[<-Z]at j h2⊢;refine(Tryz.bytes_Index_same b o c1 b2 o2 c2 s.length (rowNums s) (rowNums (c::d::t)) w (by rw[Z];simp) (mI h2) (yY _) (by rw[yY,Z]) y j).mono fun J w' h=>key _ J w' h ?_
    rw[ye,ye];cases(c::d::t==s)<;>rfl
   ·rename_i Z;obtain⟨hc,B⟩:=zm B;cases B;have h1':¬s.length<(c::d::t).length:=fun hh=>by rw[Nat.blt_eq.mpr hh]at h1;cases h1
    have I:0<(c::d::t).length:=by simp
    have h0:0<s.length:=by omega
    obtain⟨b,o,rfl,y⟩:=O h0;obtain⟨b2,o2,rfl,j⟩:=H I;obtain⟨m,hm⟩:=(gd R w hG.1.1.1 W.ro).maxLen;refine(Tryz.bytes_Index_at ⟨b,o,none⟩ ⟨b2,o2,none⟩ s.length c1 (c::d::t).length c2 (rowNums s) (rowNums (c::d::t)) m w (yY _) (yY _) (X7 _) (X7 _)
     (fun i hi=>by rw[Lib.add_plain'];exact y i hi) (fun i hi=>by rw[Lib.add_plain'];exact j i hi) hc1 (Nat.blt_eq.mp hc) (mI h2) hm).mono fun J w' ⟨q1,q,q2⟩=>?_
    rw[ye,ye]at q1;exact⟨q1,by rw[q2];exact Keeps.drewN _ _⟩
  ·cases B
theorem zjJ:SoundC Tryz.prog GP4 zfW:=zeD (by kernel_rfl) (Value.int .i64) (fun _ _ _=>rfl) zqJ
end Go.Proofs.C06
end
section
set_option maxHeartbeats 4000000
set_option maxRecDepth 100000
namespace Go.Proofs
open Go.Shelf
shelf_lay_g Lays8.n4 Nm8 4 at Tryz 94 as Tryz.growB
end Go.Proofs
namespace Go.Proofs.C06
open Go Go.RowKit Go.Vc Go.Am
def d1n(a:List AV)(_:Heap):Option Int:=match a with
 |[.nils,.int .i64 n]=>some n
 |_=>none
theorem X4(n:Nat):Builtin.zeroCells (Value.int .u8 0).cells n=(List.replicate n (Value.int .u8 0)).toArray:=by
 apply nP;apply uAI;intro i;unfold Builtin.zeroCells;have hc:(Value.int .u8 0).cells= #[Value.int .u8 0]:=rfl;rw[hc];simp[List.getElem?_replicate,Nat.mod_one];by_cases h:i<n
 ·simp[h]
 ·simp[h]
theorem znX:∃j,Tryz.prog.info? 5=some j/\j.size=1/\j.bytes=1/\j.zero=some (.int .u8 0):=by
 have h:(match Tryz.prog.info? 5 with
  |some i=>Nat.beq i.size 1&&(Nat.beq i.bytes 1&&(match i.zero with
   |some (.int .u8 z)=>decide (z=0)
   |_=>false))
  |none=>false)=true:=by kernel_rfl
 split at h
 ·rename_i i H;simp only[kY]at h;obtain⟨I,J,y⟩:=h;refine⟨i,H,kV I,kV J,?_⟩;split at y
  ·rename_i z B;rw[B,of_decide_eq_true y]
  ·cases y
 ·cases h
def zfX:Con:=zp0 94 d1n (fun n=>chk (decide (0<n)&&decide (n<=1000000)) (some (.bytes 5 []))) (fun i=>.rw i)
theorem zjK:SoundC Tryz.prog GP4 zfX:=Yx (jk (by kernel_rfl)) fun args h n ao R G w vs H I hG W hr=>by
 obtain⟨hc,I⟩:=zm I;cases I;simp only[kY,decide_eq_true_eq]at hc;have hv:vs=[.slice none 0 0,.int .i64 n]:=by
  unfold d1n at H;split at H
  ·cases H;obtain⟨u,us,rfl,J,u',O,rfl,B,y⟩:=hr;have J:u=.slice none 0 0:=J;have B:u'=.int .i64 n:=B;have y:O=[]:=y;rw[J,B,y]
  ·cases H
 subst hv;obtain⟨k,rfl⟩:∃k:Nat,n=k:=⟨n.toNat,by omega⟩
 obtain⟨i0,hi,e1,e2,e3⟩:=znX;have hb:i0.bytes=1:=e2;refine(Any8.slices_Grow_grow Tryz.growB i0 (.int .u8 0) hi e3 (by rw[e1];decide) none 0 0 k [] w (mA _) (by omega) (by rw[hb];omega) (by omega) (by simp) (fun _=>rfl) (fun a h=>by cases h)).mono fun e' w' ⟨he,U⟩=>?_
 generalize hC:grownCap w (0+k) 0 (Tryz.growB_ren.t 25)=C at he U;have hge:0+k<=C:=hC▸grownCap_ge w _ _ _;refine⟨_,⟨w.heap.size,false,C,[w.heap.size]⟩,he,?_,by simp,fun L'=>?_,fun L' hL=>⟨_,hL,(fun h=>by cases h),fun _=>rfl⟩⟩
 ·rw[U];exact Keeps.of_below (((Below.refl _ _).drew).alloc (mA _) _)
 ·rw[U];have hp:∀ob:Obj,(w.drew.alloc ob).heap[w.heap.size]? =some ob:=fun ob=>by show(w.heap.push ob)[w.heap.size]? =some ob;rw[Array.getElem?_push_size]
  refine .inr ⟨rfl,rfl,nL _,[],List.replicate C (.int .u8 0),(0,0),?_,rfl,rfl,by simp,mA _,fun j _ hj=>by omega⟩;rw[hp];have Z:∀n,Builtin.zeroCells (Value.int .u8 0).cells n=(List.replicate n (Value.int .u8 0)).toArray:=X4;rw[Z,Z];have e:([]:List Value).toArray++(List.replicate (0+k-0) (Value.int .u8 0)).toArray++(List.replicate (C-(0+k)) (Value.int .u8 0)).toArray=(List.replicate C (Value.int .u8 0)).toArray:=by apply nP;simp only[Array.toList_append,nJ,List.replicate_append_replicate];congr 1;omega
  rw[e];rfl
end Go.Proofs.C06
end
section
set_option maxRecDepth 100000
set_option maxHeartbeats 4000000
namespace Go.Proofs.C06
open Go Go.RowKit Go.Vc Go.Am
def zzC:List (uAS×Int):=[([65,67,67,69,83,83],1),([65,68,86,65,78,67,73,78,71],1),([65,70,84,69,82],1),([65,76,76],1),([65,76,80,72,65,66,69,84,73,67],1),([65,76,83,79],1),([65,76,84,69,82,78,65,84,69],1),([65,78,68],1),([65,78,89],1),([65,82,69],1),([65,82,69,65],1),([65,82,69,65,83],1),([65,83,67,69,78,68,73,78,71],1),([65,83,83,73,71,78],1),([65,84],1),([65,87,65,89,45,70,82,79,77,45,90,69,82,79],1),([66,69,70,79,82,69],1),([66,73,78,65,82,89],1),([66,76,65,78,75],1),([66,76,79,67,75],1),([66,89],1),([67,70],1),([67,72],1),([67,72,65,82,65,67,84,69,82],1),([67,72,65,82,65,67,84,69,82,83],1),([67,76,65,83,83],1),([67,79,76,85,77,78],1),([67,79,77,80],1),([67,79,77,80,45,51],1),([67,79,77,80,85,84,65,84,73,79,78,65,76],1),([67,79,77,80,85,84,65,84,73,79,78,65,76,45,51],1),([67,79,78,70,73,71,85,82,65,84,73,79,78],1),([67,79,78,84,65,73,78,83],1),([67,79,78,84,69,78,84],1),([67,79,78,84,82,79,76],1),([67,79,78,84,82,79,76,83],1),([67,79,78,86,69,82,84,73,78,71],1),([67,79,80,89],1),([67,79,82,82],1),([67,79,82,82,69,83,80,79,78,68,73,78,71],1)]
def zzB:List (uAS×Int):=[([67,79,85,78,84],1),([68,65,84,65],1),([68,69],1),([68,69,67,76,65,82,65,84,73,86,69,83],1),([68,69,76,73,77,73,84,69,68],1),([68,69,76,73,77,73,84,69,82],1),([68,69,80,69,78,68,73,78,71],1),([68,69,83,67,69,78,68,73,78,71],1),([68,69,84,65,73,76],1),([68,73,86,73,83,73,79,78],1),([68,79,87,78],1),([68,85,80,76,73,67,65,84,69,83],1),([68,89,78,65,77,73,67],1),([69,76,83,69],1),([69,78,68],1),([69,78,68,45,65,68,68],1),([69,78,68,45,67,65,76,76],1),([69,78,68,45,67,79,77,80,85,84,69],1),([69,78,68,45,68,69,76,69,84,69],1),([69,78,68,45,68,73,86,73,68,69],1),([69,78,68,45,69,86,65,76,85,65,84,69],1),([69,78,68,45,73,70],1),([69,78,68,45,77,85,76,84,73,80,76,89],1),([69,78,68,45,80,69,82,70,79,82,77],1),([69,78,68,45,82,69,65,68],1),([69,78,68,45,82,69,84,85,82,78],1),([69,78,68,45,82,69,87,82,73,84,69],1),([69,78,68,45,83,69,65,82,67,72],1),([69,78,68,45,83,84,65,82,84],1),([69,78,68,45,83,84,82,73,78,71],1),([69,78,68,45,83,85,66,84,82,65,67,84],1),([69,78,68,45,85,78,83,84,82,73,78,71],1),([69,78,68,45,87,82,73,84,69],1),([69,78,86,73,82,79,78,77,69,78,84],1),([69,81,85,65,76],1),([69,82,82,79,82],1),([69,88,67,69,80,84,73,79,78],1),([69,88,84,69,78,68],1),([70,65,76,83,69],1),([70,68],1)]
def zzA:List (uAS×Int):=[([70,73,76,69],1),([70,73,76,69,45,67,79,78,84,82,79,76],1),([70,73,76,76,69,82],1),([70,73,78,65,76],1),([70,73,82,83,84],1),([70,79,79,84,73,78,71],1),([70,79,82],1),([70,82,79,77],1),([71,73,86,73,78,71],1),([71,82,69,65,84,69,82],1),([71,82,79,85,80],1),([72,69,65,68,73,78,71],1),([73,45,79],1),([73,45,79,45,67,79,78,84,82,79,76],1),([73,68,69,78,84,73,70,73,67,65,84,73,79,78],1),([73,78],1),([73,78,68,69,88,69,68],1),([73,78,68,73,67,65,84,69],1),([73,78,73,84,73,65,76],1),([73,78,80,85,84],1),([73,78,80,85,84,45,79,85,84,80,85,84],1),([73,78,84,79],1),([73,78,86,65,76,73,68],1),([73,83],1),([74,85,83,84],1),([74,85,83,84,73,70,73,69,68],1),([75,69,89],1),([76,65,66,69,76],1),([76,65,83,84],1),([76,69,65,68,73,78,71],1),([76,69,70,84],1),([76,69,83,83],1),([76,73,77,73,84],1),([76,73,77,73,84,83],1),([76,73,78,69],1),([76,73,78,69,83],1),([76,73,78,75,65,71,69],1),([77,79,68,69],1),([78,69,65,82,69,83,84,45,65,87,65,89,45,70,82,79,77,45,90,69,82,79],1),([78,69,65,82,69,83,84,45,69,86,69,78],1)]
def zzz:List (uAS×Int):=[([78,69,65,82,69,83,84,45,84,79,87,65,82,68,45,90,69,82,79],1),([78,69,71,65,84,73,86,69],1),([78,69,88,84],1),([78,79],1),([78,79,84],1),([78,85,77,66,69,82],1),([78,85,77,69,82,73,67],1),([79,67,67,85,82,83],1),([79,70],1),([79,70,70],1),([79,77,73,84,84,69,68],1),([79,78],1),([79,80,84,73,79,78,65,76],1),([79,82],1),([79,82,68,69,82],1),([79,82,71,65,78,73,90,65,84,73,79,78],1),([79,84,72,69,82],1),([79,85,84,80,85,84],1),([79,86,69,82,70,76,79,87],1),([80,65,67,75,69,68,45,68,69,67,73,77,65,76],1),([80,65,71,69],1),([80,70],1),([80,72],1),([80,73,67],1),([80,73,67,84,85,82,69],1),([80,76,85,83],1),([80,79,73,78,84,69,82],1),([80,79,83,73,84,73,86,69],1),([80,82,79,67,69,68,85,82,69],1),([80,82,79,67,69,69,68],1),([80,82,79,71,82,65,77],1),([80,82,79,71,82,65,77,45,73,68],1),([80,82,79,72,73,66,73,84,69,68],1),([82,65,78,68,79,77],1),([82,68],1),([82,69,67,79,82,68],1),([82,69,67,79,82,68,83],1),([82,69,68,69,70,73,78,69,83],1),([82,69,70,69,82,69,78,67,69],1),([82,69,76,65,84,73,86,69],1)]
def zzy:List (uAS×Int):=[([82,69,77,65,73,78,68,69,82],1),([82,69,78,65,77,69,83],1),([82,69,80,76,65,67,73,78,71],1),([82,69,80,79,82,84],1),([82,69,80,79,82,84,73,78,71],1),([82,69,80,79,82,84,83],1),([82,69,83,69,84],1),([82,70],1),([82,72],1),([82,73,71,72,84],1),([82,79,85,78,68,69,68],1),([82,85,78],1),([83,67,82,69,69,78],1),([83,68],1),([83,69,67,84,73,79,78],1),([83,69,76,69,67,84],1),([83,69,78,84,69,78,67,69],1),([83,69,80,65,82,65,84,69],1),([83,69,81,85,69,78,67,69],1),([83,69,81,85,69,78,84,73,65,76],1),([83,73,71,78],1),([83,73,90,69],1),([83,79,85,82,67,69],1),([83,84,65,78,68,65,82,68],1),([83,84,65,84,85,83],1),([83,85,77],1),([84,65,76,76,89,73,78,71],1),([84,69,83,84],1),([84,72,65,78],1),([84,72,69,78],1),([84,72,82,79,85,71,72],1),([84,72,82,85],1),([84,73,77,69,83],1),([84,79],1),([84,79,87,65,82,68,45,71,82,69,65,84,69,82],1),([84,79,87,65,82,68,45,76,69,83,83,69,82],1),([84,82,65,73,76,73,78,71],1),([84,82,85,69],1),([84,82,85,78,67,65,84,73,79,78],1),([84,89,80,69],1)]
def zzx:List (uAS×Int):=[([85,78,84,73,76],1),([85,80],1),([85,80,79,78],1),([85,83,65,71,69],1),([85,83,73,78,71],1),([86,65,76,85,69],1),([86,65,76,85,69,83],1),([86,65,82,89,73,78,71],1),([87,72,69,78],1),([87,73,84,72],1),([87,79,82,75,73,78,71,45,83,84,79,82,65,71,69],1),([65,67,67,69,80,84],2),([65,68,68],2),([65,76,84,69,82],2),([67,65,76,76],2),([67,65,78,67,69,76],2),([67,76,79,83,69],2),([67,79,77,80,85,84,69],2),([67,79,78,84,73,78,85,69],2),([68,69,76,69,84,69],2),([68,73,83,80,76,65,89],2),([68,73,86,73,68,69],2),([69,86,65,76,85,65,84,69],2),([69,88,73,84],2),([71,69,78,69,82,65,84,69],2),([71,79],2),([73,70],2),([73,78,73,84,73,65,76,73,90,69],2),([73,78,73,84,73,65,84,69],2),([73,78,83,80,69,67,84],2),([77,69,82,71,69],2),([77,79,86,69],2),([77,85,76,84,73,80,76,89],2),([79,80,69,78],2),([80,69,82,70,79,82,77],2),([82,69,65,68],2),([82,69,76,69,65,83,69],2),([82,69,84,85,82,78],2),([82,69,87,82,73,84,69],2),([83,69,65,82,67,72],2)]
def zzw:List (uAS×Int):=[([83,69,84],2),([83,79,82,84],2),([83,84,65,82,84],2),([83,84,79,80],2),([83,84,82,73,78,71],2),([83,85,66,84,82,65,67,84],2),([83,85,80,80,82,69,83,83],2),([84,69,82,77,73,78,65,84,69],2),([85,78,83,84,82,73,78,71],2),([85,83,69],2),([87,82,73,84,69],2),([90,69,82,79],3),([90,69,82,79,83],3),([90,69,82,79,69,83],3),([83,80,65,67,69],3),([83,80,65,67,69,83],3),([72,73,71,72,45,86,65,76,85,69],3),([72,73,71,72,45,86,65,76,85,69,83],3),([76,79,87,45,86,65,76,85,69],3),([76,79,87,45,86,65,76,85,69,83],3),([81,85,79,84,69],3),([81,85,79,84,69,83],3)]
def jd:List (uAS×Int):=zzC++(zzB++(zzA++(zzz++(zzy++(zzx++(zzw))))))
def eqW:uAS->uAS->Bool
 |[],[]=>true
 |a::r,b::s=>cond (Nat.beq a.toNat b.toNat) (eqW r s) false
 |_,_=>false
def jy(l:uAS):List (uAS×Int)->Int
 |[]=>0
 |(w,n)::r=>cond (eqW l w) n (jy l r)
end Go.Proofs.C06
end
section
set_option maxHeartbeats 40000000
set_option maxRecDepth 100000
namespace Go.Proofs.C06
open Go Go.RowKit Go.Vc Go.Am
theorem zuY:Bas Tryz.prog GP4 zqf:=⟨mixed,fun R h=>zBx.hgl R h.1,Jh.hst⟩
def zA3:List (AV×AV):=jd.map fun x=>(.str x.1,.int .u8 x.2)
def zsg:RunW:=RunRow.runW [⟨68,[fields_con],[],[]⟩] [] (fun _=>false) 4000 (by kernel_rfl) (by kernel_rfl) [] (by kernel_rfl)
theorem zve:zb0 Tryz.prog zqf zsg 1 68 [] []=some ⟨.map 0,[some (.mp zA3)]⟩:=by kernel_rfl
theorem zq2:∀C∈[fields_con],SoundC Tryz.prog GP4 C:=mJ.2 ⟨zje,fun _ h=>by cases h⟩
def zhA:Con:=zp0 68 (fun a _=>match a with
 |[]=>some ()
 |_=>none) (fun _=>some (.mp zA3)) .map
theorem zpA:SoundC Tryz.prog GP4 zhA:=zp4 (ZZ zuY zsg (fun g C j=>by
 rcases mQ.1 j with j|j
 ·cases j
 ·exact RunRow.sound (l:=[⟨68,[fields_con],[],[]⟩]) (mJ.2 ⟨zq2,fun _ h=>by cases h⟩) g C j) 1 68) (by kernel_rfl) zve
def qQ:List uAS:=[[84],[78],[65],[66],[67],[68],[69],[70],[88],[89],[90],[80],[73],[83],[87],[75],[90,69,82,79],[90,69,82,79,83],[83,80,65,67,69],[83,80,65,67,69,83],[67,72,65,82,65,67,84,69,82,83],[70,73,82,83,84],[65,76,76],[76,69,65,68,73,78,71],[83,73,90,69],[68,69,76,73,77,73,84,69,68],[73,78,84,79],[79,82],[67,79,85,78,84],[80,79,73,78,84,69,82],[84,65,76,76,89,73,78,71],[82,69,80,76,65,67,73,78,71],[85,78,83,84,82,73,78,71],[83,84,82,73,78,71],[79,86,69,82,70,76,79,87],[68,69,76,73,77,73,84,69,82],[66,89],[66,69,70,79,82,69],[65,70,84,69,82],[73,78,73,84,73,65,76],[84,79],[73,78],[87,73,84,72],[81,85,79,84,69],[65,78,68],[78,79,84],[73,83],[78,85,77,69,82,73,67],[66,73,71],[84,72,82,85],[84,72,82,79,85,71,72],[72,73,71,72,45,86,65,76,85,69],[82],[79,70],[],[40],[41],[43],[45],[42],[47],[42,42],[58],[61],[66,45,49],[53],[71],[88,65],[88,66],[88,67],[88,68],[88,69],[88,70],[88,71],[88,72],[88,73],[65,76,80,72,65,66,69,84,73,67],[65,76,80,72,65,78,85,77,69,82,73,67],[65,76,80,72,65,78,85,77,69,82,73,67,45,69,68,73,84,69,68],[78,85,77,69,82,73,67,45,69,68,73,84,69,68],[68,65,84,65],[77],[70,79,82],[67,79,78,86,69,82,84,73,78,71]]
theorem zuA:∀(a b:uAS),eqW a b=true->a=b
 |[],[],_=>rfl
 |a::r,b::s,h=>by
  unfold eqW at h;cases hb:Nat.beq a.toNat b.toNat with
  |false=>rw[hb]at h;cases h
  |true=>rw[hb]at h;rw[UInt8.toNat_inj.1 (kV hb),zuA r s h]
 |[],_::_,h=>by cases h
 |_::_,[],h=>by cases h
def zb5(l:uAS):List uAS->Bool
 |[]=>false
 |w::r=>cond (eqW l w) true (zb5 l r)
theorem zo8{l:uAS}:∀{j:List uAS},zb5 l j=true->l∈j
 |[],h=>by cases h
 |w::r,h=>by
  unfold zb5 at h;cases hb:eqW l w with
  |true=>rw[zuA _ _ hb];exact mV
  |false=>rw[hb]at h;exact mU _ (zo8 h)
def zhs(a:List AV)(h:Heap):Option uAS:=match a,h with
 |[.str l],[]=>some l
 |_,_=>none
def zht:Con:=Con6.c ⟨40,uAS,Int,zhs,fun l=>chk (zb5 l qQ) (some (jy l jd)),fun _ n=>⟨.int .u8 n,[]⟩⟩
def zzj:RunW:=RunRow.runW [⟨40,[zhA],[],[]⟩] [] (fun _=>false) 4000 (by kernel_rfl) (by kernel_rfl) [] (by kernel_rfl)
def zmW:Option Out->Int->Bool
 |some ⟨.int .u8 n,[]⟩,m=>decide (n=m)
 |_,_=>false
theorem zqd{o:Option Out}{m:Int}(h:zmW o m=true):o=some ⟨.int .u8 m,[]⟩:=by
 unfold zmW at h;split at h
 ·rw[of_decide_eq_true h]
 ·cases h
theorem zyr:qQ.all (fun l=>zmW (zb0 Tryz.prog zqf zzj 1 40 [.str l] []) (jy l jd))=true:=by kernel_rfl
theorem zgl:SoundC Tryz.prog GP4 zht:=by
 intro y h l r j H;have j:zhs y h=some l:=j;unfold zhs at j;split at j
 ·cases j;obtain⟨J,H⟩:=zm (show chk (zb5 l qQ) (some (jy l jd))=some r from H);cases H;have I:=zqd (mK.1 zyr l (zo8 J));exact ZZ zuY zzj (fun g C B=>by
   rcases mQ.1 B with B|B
   ·cases B
   ·exact RunRow.sound (l:=[⟨40,[zhA],[],[]⟩]) (mJ.2 ⟨mJ.2 ⟨zpA,fun _ h=>by cases h⟩,fun _ h=>by cases h⟩) g C B) 1 40 [.str l] [] ([.str l],[]) _ rfl I
 ·cases j
end Go.Proofs.C06
end
section
set_option maxHeartbeats 4000000
set_option maxRecDepth 100000
namespace Go.Proofs.C06
open Go Go.RowKit Go.Vc Go.Am
theorem znr(cap:Nat)(w:World):Calls Tryz.prog 91 #[.slice none 0 cap] w fun e w'=>e=.returned (.slice none 0 0)/\w'=w:=by
 have j:∀(w:World)(a:Option Addr)(n c:Nat),(binOp .eql 22 (.slice a n c) (.slice none 0 0)).run Tryz.prog w=.ok (.bool a.isNone) w:=fun w a n c=>Lib.run_eql_slice_nil w 22 5 a n c 0 0 (by kernel_rfl)
 go_enter Tryz.func91,Tryz.ntmps91
 go_wp2
 go_ret
 exact⟨rfl,rfl⟩
theorem zfK(a:Addr)(n c:Nat)(w:World)(v:Value)(y:World)(j:∀ty,(Builtin.append_ #[22,22] ty #[.slice (some ⟨w.heap.size,0,none⟩) 0 0,.slice (some a) n c]).run Tryz.prog (w.alloc (.cells #[] 5))=.ok v y):Calls Tryz.prog 91 #[.slice (some a) n c] w fun e w'=>e=.returned v/\w'=y:=by
 have B:∀(w:World)(a:Option Addr)(n c:Nat),(binOp .eql 22 (.slice a n c) (.slice none 0 0)).run Tryz.prog w=.ok (.bool a.isNone) w:=fun w a n c=>Lib.run_eql_slice_nil w 22 5 a n c 0 0 (by kernel_rfl)
 go_enter Tryz.func91,Tryz.ntmps91
 go_wp2_with (at_builtin;refine Lib.wpList_append_run _ rfl _ _ _ _ rfl _ _ rfl rfl _ _ (j _) ?_)
 all_goals (go_ret;exact⟨rfl,rfl⟩)
def d1b(a:List AV)(h:Heap):Option uAS:=match a with
 |[v]=>yk h (un v)
 |_=>none
theorem zAH{j:List AV}{h:Heap}{l:uAS}(e:d1b j h=some l){R:Ro}{G:List Res}{w:World}{vs:List Value}(W:WRel R G h w)(y:RelL (Am.look G h) R j vs):
  ∃p c,vs=[.slice p l.length c]/\l.length<=c/\Lib.BytesIn w p l.length (rowNums l):=by
 unfold d1b at e;split at e
 ·obtain⟨u,J,rfl,H,rfl⟩:=y;obtain⟨p,c,rfl,B,I⟩:=ZF W e (yG H);exact⟨p,c,rfl,B,I⟩
 ·cases e
def zfY:Con:=zp0 91 d1b (fun l=>chk (Nat.ble l.length 1000000000000) (some (.bytes 5 l))) (fun i=>.rw i)
theorem znP{w:World}{ob:Obj}{a:Addr}{v:Value}(h:w.cell? a=some v):(w.alloc ob).cell? a=some v:=by
 have j:a.block<w.heap.size:=by
  rcases Nat.lt_or_ge a.block w.heap.size with h'|h'
  ·exact h'
  ·exfalso;unfold World.cell? at h;rw[Array.getElem?_eq_none h']at h;cases h
 have e:(w.alloc ob).heap[a.block]? =w.heap[a.block]? :=by show(w.heap.push ob)[a.block]? =w.heap[a.block]?;rw[Array.getElem?_push,if_neg (by omega)]
 unfold World.cell? at h⊢;rw[e];exact h
theorem zjL:SoundC Tryz.prog GP4 zfY:=Yx (jk (by kernel_rfl)) fun args h l ao R G w vs hd hs hG W hr=>by
 obtain⟨hc,hs⟩:=zm hs;cases hs;have hc:=mI hc;obtain⟨p,cap,rfl,hcap,hb⟩:=zAH hd W hr;have hp:∀(w:World)(ob:Obj),(w.alloc ob).heap[w.heap.size]? =some ob:=fun w ob=>by show(w.heap.push ob)[w.heap.size]? =some ob;rw[Array.getElem?_push_size]
 obtain⟨Z,hi,e1,e2,e3⟩:=znX;by_cases h0:0<l.length
 ·obtain⟨b,o,rfl,H⟩:=hb h0;have hap:∀ty,(Builtin.append_ #[22,22] ty #[.slice (some ⟨w.heap.size,0,none⟩) 0 0,.slice (some ⟨b,o,none⟩) l.length cap]).run Tryz.prog (w.alloc (.cells #[] 5))=_:=fun ty=>
   run_append_grow (P:=Tryz.prog) (w.alloc (.cells #[] 5)) 22 ty 5 Z (.int .u8 0) (by kernel_rfl) hi e3 ⟨w.heap.size,0,none⟩ 0 0 [] (by simp) (by intro j v y;simp at y) ⟨b,o,none⟩ l.length cap (l.map u8V) (by rw[mE,e1,nC])
    (fun j v y=>by
     have I:j<l.length:=by have:=(kX.1 y).1;simpa using this
     rw[jD];have h1:=znP (ob:=.cells #[] 5) (H j I);have h2:(rowNums l).getD j 0=(l[j].toNat:Int):=by rw[mG];unfold rowNums;rw[mX,kZ I];rfl
     rw[h1,h2];rw[mX,kZ I]at y;exact y)
    (by omega) (by omega) (growslice_fits (by omega) (by rw[e2];omega))
  have O:(w.alloc (.cells #[] 5)).heap.size=w.heap.size+1:=by show(w.heap.push _).size=_;rw[Array.size_push]
  have hge:=grownCap_ge (w.alloc (.cells #[] 5)) (0+l.length) 0 5;refine(zfK ⟨b,o,none⟩ l.length cap w _ _ hap).mono fun e' w' ⟨J,B⟩=>?_
  generalize grownCap (w.alloc (.cells #[] 5)) (0+l.length) 0 5=C at J B hge;rw[O,uAr]at J;refine⟨_,⟨w.heap.size+1,false,C,[w.heap.size+1]⟩,J,?_,by simp,fun L'=>?_,fun L' U=>⟨_,U,(fun h=>by cases h),fun _=>rfl⟩⟩
  ·rw[B];exact Keeps.of_below ((((Below.refl _ _).alloc (mA _) _).drew).alloc (by show w.heap.size<=(w.alloc (.cells #[] 5)).heap.size;rw[O];omega) _)
  ·rw[B];refine .inr ⟨rfl,rfl,(by show l.length<=C;omega),l.map u8V,List.replicate (C-l.length) (.int .u8 0),(0,0),?_,rfl,by simp,by simp;omega,mA _,fun j _ y=>by omega⟩;have h3:=hp (w.alloc (.cells #[] 5)).drew (.cells (([]:List Value).toArray++(l.map u8V).toArray++Builtin.zeroCells (Value.int .u8 0).cells (C-(0+l.length))) 5);rw[show(w.alloc (.cells #[] 5)).drew.heap.size=w.heap.size+1 from O]at h3;refine h3.trans ?_;rw[X4,uAr];have e:([]:List Value).toArray++(l.map u8V).toArray++(List.replicate (C-l.length) (Value.int .u8 0)).toArray=(l.map u8V++List.replicate (C-l.length) (Value.int .u8 0)).toArray:=by apply nP;simp
   rw[e]
 ·have hl:l=[]:=mW.1 (by omega);subst hl;cases p with
  |none=>refine(znr cap w).mono fun e' w' ⟨J,B⟩=>⟨_,⟨0,true,0,[]⟩,J,by rw[B];exact Keeps.refl _ _,by simp,fun L'=>.inl ⟨rfl,rfl,rfl,rfl⟩,fun L' U=>⟨_,U,fun _=>⟨rfl,rfl⟩,fun h=>by cases h⟩⟩
  |some a=>
   refine(zfK a 0 cap w (.slice (some ⟨w.heap.size,0,none⟩) 0 0) (w.alloc (.cells #[] 5)) fun ty=>?_).mono fun e' w' ⟨J,B⟩=>⟨_,⟨w.heap.size,false,0,[w.heap.size]⟩,J,?_,by simp,fun L'=>?_,fun L' U=>⟨_,U,(fun h=>by cases h),fun _=>rfl⟩⟩
   ·have h1:=run_append_room (P:=Tryz.prog) (w:=w.alloc (.cells #[] 5)) 22 ty 5 Z (by kernel_rfl) hi w.heap.size 0 0 #[] (hp _ _) a 0 cap [] (by simp) (by intro j u y;simp at y) (by intro u hu;cases hu) (by omega) (by simp);rw[h1];congr 1;have e:(List.take (0*Z.size) (#[]:Array Value).toList++[]++List.drop (0*Z.size+([]:List Value).length) (#[]:Array Value).toList).toArray= #[]:=by simp
    rw[e];exact setRow_self _ _ _ _ _ (hp w (.cells #[] 5))
   ·rw[B];exact Keeps.of_below ((Below.refl _ _).alloc (mA _) _)
   ·rw[B];exact .inr ⟨rfl,rfl,mA _,[],[],(0,0),hp _ _,rfl,rfl,by simp,mA _,fun j _ y=>by omega⟩
end Go.Proofs.C06
end
