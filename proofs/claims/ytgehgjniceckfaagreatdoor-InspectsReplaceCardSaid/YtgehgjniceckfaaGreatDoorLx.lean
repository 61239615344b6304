/-
  A part of the proof of the laws.
-/
import Derived.Test.YtgehgjniceckfaaGreatDoorIn
import Derived.Test.YtgehgjniceckfaaGreatDoorSh
import Derived.Test.YtgehgjniceckfaaGreatDoorShelf
import Derived.Shelf.Spec.SlicesGrow
import Derived.Lib.LazyBuf
section
set_option maxHeartbeats 4000000
set_option maxRecDepth 100000
namespace Go.Proofs.C06
open Go Go.RowKit Go.Vc Go.Am
def GP4(R:Ro):Prop:=GP3 R∧∃T fr,R 1=some (.cells (Lib.asciiSpaceTab.map fun z=>Value.int .u8 z).toArray T fr)
theorem zgQ:Bas Tryz.prog GP4 gl3:=⟨mixed,fun _ h=>zut.hgl _ h.1,fun R R' hs h=>⟨zut.hst R R' hs h.1,by obtain⟨T,fr,e⟩:=h.2;exact⟨T,fr,hs _ _ e⟩⟩⟩
theorem qr{C:Con}(h:SoundC Tryz.prog GP3 C):SoundC Tryz.prog GP4 C:=fun args hh x r hd hs=>
 let⟨h1,h2⟩:=h args hh x r hd hs
 ⟨h1,fun R G w vs hG W hargs=>h2 R G w vs hG.1 W hargs⟩
def d1s(a:List AV)(_:Heap):Option (List UInt8):=match a with
 |[.str l]=>some l
 |_=>none
theorem zvU{a:List AV}{h:Heap}{l:List UInt8}(e:d1s a h=some l):a=[.str l]:=by
 unfold d1s at e;split at e
 ·cases e;rfl
 ·cases e
def fields_con:Con:=zl2 143 d1s (fun l=>chk (l.all (fun b=>Nat.blt b.toNat 128)&&Nat.blt l.length 4294967281) (some (.strs 9 (Lib.fields l)))) (fun i=>.rwf i)
theorem zgz:SoundC Tryz.prog GP4 fields_con:=JH (jv (by kernel_rfl)) fun args h l ao R G w vs hd hs hG W hr=>by
 have e:=zvU hd;subst e;obtain⟨hc,hs⟩:=zp hs;cases hs;rw[Bool.and_eq_true]at hc;obtain⟨u,us,rfl,hu,hus⟩:=hr;have hus:us=[]:=hus;have hu:u=.string (bs l):=hu;subst hus hu;obtain⟨T,fr,hR⟩:=hG.2;have hw:=W.ro _ _ hR;have htab:Lib.TabIs Tryz.prog w "strings.asciiSpace" .u8 Lib.asciiSpaceTab:=by unfold Lib.TabIs World.var?;rw[show Tryz.prog.globalNamed "strings.asciiSpace" =some 1 from by kernel_rfl];simp[hw]
 have hbs:(bs l).data.toList=l:=by simp[bs]
 have hsz:(bs l).size=l.length:=by simp[bs,ByteArray.size]
 refine(Tryz.strings_Fields (bs l) w (by rw[hsz];exact Nat.le_of_ble_eq_true hc.2) (fun j b hj=>?_) htab).mono fun e w' ⟨he,hw'⟩=>?_
 ·rw[hbs]at hj;exact Nat.le_of_ble_eq_true (List.all_eq_true.1 hc.1 b (List.mem_of_getElem? hj))
 ·rw[hbs]at he hw';refine⟨_,⟨w.heap.size,false,(Lib.fields l).length,[w.heap.size]⟩,he,by rw[hw'];exact Keeps.of_below ((Below.refl _ _).alloc (Nat.le_refl _) _),by simp,fun L'=>?_,fun L' hL=>?_⟩
  ·rw[hw'];refine .inr ⟨rfl,rfl,Nat.le_refl _,(Lib.fields l).map (fun l=>Value.string (bs l)),[],(0,0),?_,rfl,by simp,by simp,Nat.le_refl _,fun j _ hj=>by omega⟩;have hp:∀ob:Obj,(w.alloc ob).heap[w.heap.size]? =some ob:=fun ob=>by show(w.heap.push ob)[w.heap.size]? =some ob;rw[Array.getElem?_push_size]
   rw[hp,List.append_nil];rfl
  ·exact⟨_,hL,rfl,rfl,rfl⟩
end Go.Proofs.C06
namespace Go.Proofs.C06
open Go Go.RowKit Go.Vc Go.Am
def zhP:List UInt8→UInt8→Int→Int
 |[],_,_=> -1
 |b::l,c,n=>cond (Nat.beq b.toNat c.toNat) n (zhP l c (n+1))
theorem zln:∀(l:List UInt8)(c:UInt8)(n:Int),0≤n→zhP l c n=(if Lib.indexByte l c== -1 then-1 else Lib.indexByte l c+n)∧ -1≤Lib.indexByte l c
 |[],_,_,_=>⟨rfl,Int.le_refl _⟩
 |b::l,c,n,hn=>by
  obtain⟨h1,h2⟩:=zln l c (n+1) (by omega);unfold zhP Lib.indexByte;by_cases hb:b=c
  ·subst hb;simp
  ·have hb':Nat.beq b.toNat c.toNat=false:=by
    cases hx:Nat.beq b.toNat c.toNat with
    |false=>rfl
    |true=>exact absurd (UInt8.toNat_inj.1 (Nat.eq_of_beq_eq_true hx)) hb
   have hb2:(b==c)=false:=by simpa using hb
   rw[hb',cond_false,h1,hb2];simp only[Bool.false_eq_true,if_false];by_cases hm:Lib.indexByte l c= -1
   ·simp[hm]
   ·have e1:(Lib.indexByte l c== -1)=false:=by simpa using hm
    simp only[e1,Bool.false_eq_true,if_false];have e2:((Lib.indexByte l c+1)== -1)=false:=by simp;omega
    simp only[e2,Bool.false_eq_true,if_false];omega
theorem VP(l:List UInt8)(c:UInt8):zhP l c 0=Lib.indexByte l c:=by
 obtain⟨h,_⟩:=zln l c 0 (Int.le_refl _);rw[h];split
 ·rename_i h;exact (by simpa using h:Lib.indexByte l c= -1).symm
 ·omega
def Y0:Con:=ztD 88 d1R (fun x=>chk (!zT x.1) (some (zhP x.1 x.2.toNat.toUInt8 0))) (AV.int .i64)
theorem Wf:SoundC Tryz.prog GP4 Y0:=QT (by kernel_rfl) (Value.int .i64) (fun _ _ _=>rfl) fun args h x r R G w vs hd hs _ W hr=>by
 obtain⟨hne,hs⟩:=zp hs;cases hs;obtain⟨p,c,rfl,hc,hb⟩:=zvW hd W hr;rw[VP];have key:∀(e':Ending)(w':World),(e'=.returned (.int .i64 (Lib.indexByte x.1 x.2.toNat.toUInt8))∧w'=w)→e'=.returned (.int .i64 (Lib.indexByte x.1 x.2.toNat.toUInt8))∧Keeps [] w w':=by rintro e' w' ⟨h1,rfl⟩;exact⟨h1,Keeps.refl _ _⟩
 by_cases h0:0<x.1.length
 ·obtain⟨b,o,rfl,hcell⟩:=hb h0;refine(Tryz.bytes_IndexByte b o x.1.length c (rowNums x.1) x.2 w (qh _) hcell).mono fun e' w' h=>key e' w' ?_
  rw[yo]at h;exact h
 ·have hl:x.1=[]:=List.length_eq_zero_iff.1 (by omega);rw[hl]at hne;cases hne
end Go.Proofs.C06
namespace Go.Proofs.C06
open Go Go.RowKit Go.Vc Go.Am
def zjv(s p:List UInt8):Option Int:=match p with
 |[]=>some 0
 |[c]=>chk (!zT s) (some (zhP s c 0))
 |c::d::r=>match Nat.blt s.length (c::d::r).length,Nat.ble (c::d::r).length 9223372036854775807 with
  |true,true=>some (-1)
  |false,true=>match Nat.beq s.length (c::d::r).length with
   |true=>some (cond (c::d::r==s) 0 (-1))
   |false=>chk (Nat.blt s.length 4294967281) (some (Lib.index s (c::d::r)))
  |_,false=>none
def zdL:Con:=ztD 92 d2R (fun x=>zjv x.1 x.2) (AV.int .i64)
theorem zeV:∀(args:List AV)(h:Heap)(x:List UInt8×List UInt8)(r:Int)(R:Ro)(G:List Res)(w:World)(vs:List Value),d2R args h=some x→zjv x.1 x.2=some r→GP4 R→WRel R G h w→RelL (Am.look G h) R args vs→
  Calls Tryz.prog 92 vs.toArray w fun e' w'=>e'=.returned (.int .i64 r)∧Keeps [] w w':=fun args h x r R G w vs hd hs hG W hr=>by
 obtain⟨p1,c1,p2,c2,rfl,hc1,hc2,hb1,hb2⟩:=zqn hd W hr;obtain⟨s,p⟩:=x;have hs:zjv s p=some r:=hs;have hb1:Lib.BytesIn w p1 s.length (rowNums s):=hb1;have hb2:Lib.BytesIn w p2 p.length (rowNums p):=hb2;have key:∀(n:Int)(e':Ending)(w':World),(e'=.returned (.int .i64 n)∧w'=w)→n=r→e'=.returned (.int .i64 r)∧Keeps [] w w':=by rintro n e' w' ⟨h1,rfl⟩ rfl;exact⟨h1,Keeps.refl _ _⟩
 match p,hs,hb2 with
 |[],hs,hb2=>cases hs;exact (Tryz.bytes_Index_none p1 p2 s.length c1 c2 w).mono fun e' w' h=>key _ e' w' h rfl
 |[c],hs,hb2=>
  obtain⟨hne,hs⟩:=zp (show chk (!zT s) (some (zhP s c 0))=some r from hs);cases hs;obtain⟨b2,o2,rfl,hcell2⟩:=hb2 (by simp);have hc2':w.cell? ⟨b2,o2,none⟩=some (.int .u8 (c.toNat:Int)):=hcell2 0 (by simp);rw[VP]at key⊢;have hcc:(c.toNat:Int).toNat.toUInt8=c:=by simp
  by_cases h0:0<s.length
  ·obtain⟨b,o,rfl,hcell⟩:=hb1 h0;refine(Tryz.bytes_Index_one b o s.length c1 b2 o2 c2 (rowNums s) c.toNat w (qh _) hcell hc2').mono fun e' w' h=>key _ e' w' h ?_
   rw[yo,hcc]
  ·have hl:s=[]:=List.length_eq_zero_iff.1 (by omega);rw[hl]at hne;cases hne
 |c::d::t,hs,hb2=>
  simp only[zjv]at hs;split at hs
  ·rename_i h1 h2;cases hs;exact (Tryz.bytes_Index_longer p1 p2 s.length c1 _ c2 w (by simp) (Nat.le_of_ble_eq_true h1) (Nat.le_of_ble_eq_true h2)).mono fun e' w' h=>key _ e' w' h rfl
  ·rename_i h1 h2;split at hs
   ·rename_i h3;cases hs;have h3:=Nat.eq_of_beq_eq_true h3;have hpos:0<(c::d::t).length:=by simp
    obtain⟨b,o,rfl,hcell⟩:=hb1 (by rw[h3];exact hpos);obtain⟨b2,o2,rfl,hcell2⟩:=hb2 hpos;rw[←h3]at hcell2 h2⊢;refine(Tryz.bytes_Index_same b o c1 b2 o2 c2 s.length (rowNums s) (rowNums (c::d::t)) w (by rw[h3];simp) (Nat.le_of_ble_eq_true h2) (qh _) (by rw[qh,h3]) hcell hcell2).mono fun e' w' h=>key _ e' w' h ?_
    rw[yo,yo];cases(c::d::t==s)<;>rfl
   ·rename_i h3;obtain⟨hc,hs⟩:=zp hs;cases hs;have h1':¬s.length<(c::d::t).length:=fun hh=>by rw[Nat.blt_eq.mpr hh]at h1;cases h1
    have hpos:0<(c::d::t).length:=by simp
    have h0:0<s.length:=by omega
    obtain⟨b,o,rfl,hcell⟩:=hb1 h0;obtain⟨b2,o2,rfl,hcell2⟩:=hb2 hpos;obtain⟨m,hm⟩:=(gd R w hG.1.1.1 W.ro).maxLen;refine(Tryz.bytes_Index_at ⟨b,o,none⟩ ⟨b2,o2,none⟩ s.length c1 (c::d::t).length c2 (rowNums s) (rowNums (c::d::t)) m w (qh _) (qh _) (QF _) (QF _)
     (fun i hi=>by rw[Lib.add_plain'];exact hcell i hi) (fun i hi=>by rw[Lib.add_plain'];exact hcell2 i hi) hc1 (Nat.blt_eq.mp hc) (Nat.le_of_ble_eq_true h2) hm).mono fun e' w' ⟨q1,q,q2⟩=>?_
    rw[yo,yo]at q1;exact⟨q1,by rw[q2];exact Keeps.drewN _ _⟩
  ·cases hs
theorem zgS:SoundC Tryz.prog GP4 zdL:=QT (by kernel_rfl) (Value.int .i64) (fun _ _ _=>rfl) zeV
end Go.Proofs.C06
end
section
set_option maxHeartbeats 4000000
set_option maxRecDepth 100000
namespace Go.Proofs
open Go.Shelf
shelf_lay_g Lays8.n4 Nm8 4 at Tryz 90 as Tryz.growB
end Go.Proofs
namespace Go.Proofs.C06
open Go Go.RowKit Go.Vc Go.Am
def d1n(a:List AV)(_:Heap):Option Int:=match a with
 |[.nils,.int .i64 n]=>some n
 |_=>none
theorem QE(n:Nat):Builtin.zeroCells (Value.int .u8 0).cells n=(List.replicate n (Value.int .u8 0)).toArray:=by
 apply Array.ext';apply List.ext_getElem?;intro i;unfold Builtin.zeroCells;have hc:(Value.int .u8 0).cells= #[Value.int .u8 0]:=rfl;rw[hc];simp[List.getElem?_replicate,Nat.mod_one];by_cases h:i<n
 ·simp[h]
 ·simp[h]
theorem zkj:∃i0,Tryz.prog.info? 5=some i0∧i0.size=1∧i0.bytes=1∧i0.zero=some (.int .u8 0):=by
 have h:(match Tryz.prog.info? 5 with
  |some i=>Nat.beq i.size 1&&(Nat.beq i.bytes 1&&(match i.zero with
   |some (.int .u8 z)=>decide (z=0)
   |_=>false))
  |none=>false)=true:=by kernel_rfl
 split at h
 ·rename_i i hi;simp only[Bool.and_eq_true]at h;obtain⟨h1,h2,h3⟩:=h;refine⟨i,hi,Nat.eq_of_beq_eq_true h1,Nat.eq_of_beq_eq_true h2,?_⟩;split at h3
  ·rename_i z hz;rw[hz,of_decide_eq_true h3]
  ·cases h3
 ·cases h
def zdM:Con:=zl2 90 d1n (fun n=>chk (decide (0<n)&&decide (n≤1000000)) (some (.bytes 5 []))) (fun i=>.rw i)
theorem zgT:SoundC Tryz.prog GP4 zdM:=JH (jv (by kernel_rfl)) fun args h n ao R G w vs hd hs hG W hr=>by
 obtain⟨hc,hs⟩:=zp hs;cases hs;simp only[Bool.and_eq_true,decide_eq_true_eq]at hc;have hv:vs=[.slice none 0 0,.int .i64 n]:=by
  unfold d1n at hd;split at hd
  ·cases hd;obtain⟨u,us,rfl,hu,u',us',rfl,hu',hus⟩:=hr;have hu:u=.slice none 0 0:=hu;have hu':u'=.int .i64 n:=hu';have hus:us'=[]:=hus;rw[hu,hu',hus]
  ·cases hd
 subst hv;obtain⟨k,rfl⟩:∃k:Nat,n=k:=⟨n.toNat,by omega⟩
 obtain⟨i0,hi,e1,e2,e3⟩:=zkj;have hb:i0.bytes=1:=e2;refine(Any8.slices_Grow_grow Tryz.growB i0 (.int .u8 0) hi e3 (by rw[e1];decide) none 0 0 k [] w (Nat.le_refl _) (by omega) (by rw[hb];omega) (by omega) (by simp) (fun _=>rfl) (fun a h=>by cases h)).mono fun e' w' ⟨he,hw⟩=>?_
 generalize hC:grownCap w (0+k) 0 (Tryz.growB_ren.t 25)=C at he hw;have hge:0+k≤C:=hC▸grownCap_ge w _ _ _;refine⟨_,⟨w.heap.size,false,C,[w.heap.size]⟩,he,?_,by simp,fun L'=>?_,fun L' hL=>⟨_,hL,(fun h=>by cases h),fun _=>rfl⟩⟩
 ·rw[hw];exact Keeps.of_below (((Below.refl _ _).drew).alloc (Nat.le_refl _) _)
 ·rw[hw];have hp:∀ob:Obj,(w.drew.alloc ob).heap[w.heap.size]? =some ob:=fun ob=>by show(w.heap.push ob)[w.heap.size]? =some ob;rw[Array.getElem?_push_size]
  refine .inr ⟨rfl,rfl,Nat.zero_le _,[],List.replicate C (.int .u8 0),(0,0),?_,rfl,rfl,by simp,Nat.le_refl _,fun j _ hj=>by omega⟩;rw[hp];have hz:∀n,Builtin.zeroCells (Value.int .u8 0).cells n=(List.replicate n (Value.int .u8 0)).toArray:=QE;rw[hz,hz];have e:([]:List Value).toArray++(List.replicate (0+k-0) (Value.int .u8 0)).toArray++(List.replicate (C-(0+k)) (Value.int .u8 0)).toArray=(List.replicate C (Value.int .u8 0)).toArray:=by apply Array.ext';simp only[Array.toList_append,List.nil_append,List.replicate_append_replicate];congr 1;omega
  rw[e];rfl
end Go.Proofs.C06
end
section
set_option maxHeartbeats 4000000
set_option maxRecDepth 100000
namespace Go.Proofs.C06
open Go Go.RowKit Go.Vc Go.Am
theorem zj0(cap:Nat)(w:World):Calls Tryz.prog 25 #[.slice none 0 cap] w fun e w'=>e=.returned (.slice none 0 0)∧w'=w:=by
 have q22:∀(w:World)(a:Option Addr)(n c:Nat),(binOp .eql 22 (.slice a n c) (.slice none 0 0)).run Tryz.prog w=.ok (.bool a.isNone) w:=fun w a n c=>Lib.run_eql_slice_nil w 22 5 a n c 0 0 (by kernel_rfl)
 go_enter Tryz.func25,Tryz.ntmps25
 go_wp2
 go_ret
 exact⟨rfl,rfl⟩
theorem zdA(a:Addr)(n c:Nat)(w:World)(v:Value)(w2:World)(hap:∀ty,(Builtin.append_ #[22,22] ty #[.slice (some ⟨w.heap.size,0,none⟩) 0 0,.slice (some a) n c]).run Tryz.prog (w.alloc (.cells #[] 5))=.ok v w2):Calls Tryz.prog 25 #[.slice (some a) n c] w fun e w'=>e=.returned v∧w'=w2:=by
 have q22:∀(w:World)(a:Option Addr)(n c:Nat),(binOp .eql 22 (.slice a n c) (.slice none 0 0)).run Tryz.prog w=.ok (.bool a.isNone) w:=fun w a n c=>Lib.run_eql_slice_nil w 22 5 a n c 0 0 (by kernel_rfl)
 go_enter Tryz.func25,Tryz.ntmps25
 go_wp2_with (at_builtin;refine Lib.wpList_append_run _ rfl _ _ _ _ rfl _ _ rfl rfl _ _ (hap _) ?_)
 all_goals (go_ret;exact⟨rfl,rfl⟩)
def d1b(a:List AV)(h:Heap):Option (List UInt8):=match a with
 |[v]=>yx h (un v)
 |_=>none
theorem zvV{args:List AV}{h:Heap}{l:List UInt8}(e:d1b args h=some l){R:Ro}{G:List Res}{w:World}{vs:List Value}(W:WRel R G h w)(hr:RelL (Am.look G h) R args vs):
  ∃p c,vs=[.slice p l.length c]∧l.length≤c∧Lib.BytesIn w p l.length (rowNums l):=by
 unfold d1b at e;split at e
 ·obtain⟨u,us,rfl,r1,rfl⟩:=hr;obtain⟨p,c,rfl,g1,g2⟩:=Zn W e (qf r1);exact⟨p,c,rfl,g1,g2⟩
 ·cases e
def Xd:Con:=zl2 25 d1b (fun l=>chk (Nat.ble l.length 1000000000000) (some (.bytes 5 l))) (fun i=>.rw i)
theorem zkd{w:World}{ob:Obj}{a:Addr}{v:Value}(h:w.cell? a=some v):(w.alloc ob).cell? a=some v:=by
 have hb:a.block<w.heap.size:=by
  rcases Nat.lt_or_ge a.block w.heap.size with h'|h'
  ·exact h'
  ·exfalso;unfold World.cell? at h;rw[Array.getElem?_eq_none h']at h;cases h
 have e:(w.alloc ob).heap[a.block]? =w.heap[a.block]? :=by show(w.heap.push ob)[a.block]? =w.heap[a.block]?;rw[Array.getElem?_push,if_neg (by omega)]
 unfold World.cell? at h⊢;rw[e];exact h
theorem K7:SoundC Tryz.prog GP4 Xd:=JH (jv (by kernel_rfl)) fun args h l ao R G w vs hd hs hG W hr=>by
 obtain⟨hc,hs⟩:=zp hs;cases hs;have hc:=Nat.le_of_ble_eq_true hc;obtain⟨p,cap,rfl,hcap,hb⟩:=zvV hd W hr;have hp:∀(w:World)(ob:Obj),(w.alloc ob).heap[w.heap.size]? =some ob:=fun w ob=>by show(w.heap.push ob)[w.heap.size]? =some ob;rw[Array.getElem?_push_size]
 obtain⟨i0,hi,e1,e2,e3⟩:=zkj;by_cases h0:0<l.length
 ·obtain⟨b,o,rfl,hcell⟩:=hb h0;have hap:∀ty,(Builtin.append_ #[22,22] ty #[.slice (some ⟨w.heap.size,0,none⟩) 0 0,.slice (some ⟨b,o,none⟩) l.length cap]).run Tryz.prog (w.alloc (.cells #[] 5))=_:=fun ty=>
   run_append_grow (P:=Tryz.prog) (w.alloc (.cells #[] 5)) 22 ty 5 i0 (.int .u8 0) (by kernel_rfl) hi e3 ⟨w.heap.size,0,none⟩ 0 0 [] (by simp) (by intro j v hj;simp at hj) ⟨b,o,none⟩ l.length cap (l.map u8V) (by rw[List.length_map,e1,Nat.mul_one])
    (fun j v hj=>by
     have hjl:j<l.length:=by have:=(List.getElem?_eq_some_iff.1 hj).1;simpa using this
     rw[jO];have h1:=zkd (ob:=.cells #[] 5) (hcell j hjl);have h2:(rowNums l).getD j 0=(l[j].toNat:Int):=by rw[List.getD_eq_getElem?_getD];unfold rowNums;rw[List.getElem?_map,List.getElem?_eq_getElem hjl];rfl
     rw[h1,h2];rw[List.getElem?_map,List.getElem?_eq_getElem hjl]at hj;exact hj)
    (by omega) (by omega) (growslice_fits (by omega) (by rw[e2];omega))
  have hsz:(w.alloc (.cells #[] 5)).heap.size=w.heap.size+1:=by show(w.heap.push _).size=_;rw[Array.size_push]
  have hge:=grownCap_ge (w.alloc (.cells #[] 5)) (0+l.length) 0 5;refine(zdA ⟨b,o,none⟩ l.length cap w _ _ hap).mono fun e' w' ⟨he,hw⟩=>?_
  generalize grownCap (w.alloc (.cells #[] 5)) (0+l.length) 0 5=C at he hw hge;rw[hsz,Nat.zero_add]at he;refine⟨_,⟨w.heap.size+1,false,C,[w.heap.size+1]⟩,he,?_,by simp,fun L'=>?_,fun L' hL=>⟨_,hL,(fun h=>by cases h),fun _=>rfl⟩⟩
  ·rw[hw];exact Keeps.of_below ((((Below.refl _ _).alloc (Nat.le_refl _) _).drew).alloc (by show w.heap.size≤(w.alloc (.cells #[] 5)).heap.size;rw[hsz];omega) _)
  ·rw[hw];refine .inr ⟨rfl,rfl,(by show l.length≤C;omega),l.map u8V,List.replicate (C-l.length) (.int .u8 0),(0,0),?_,rfl,by simp,by simp;omega,Nat.le_refl _,fun j _ hj=>by omega⟩;have h3:=hp (w.alloc (.cells #[] 5)).drew (.cells (([]:List Value).toArray++(l.map u8V).toArray++Builtin.zeroCells (Value.int .u8 0).cells (C-(0+l.length))) 5);rw[show(w.alloc (.cells #[] 5)).drew.heap.size=w.heap.size+1 from hsz]at h3;refine h3.trans ?_;rw[QE,Nat.zero_add];have e:([]:List Value).toArray++(l.map u8V).toArray++(List.replicate (C-l.length) (Value.int .u8 0)).toArray=(l.map u8V++List.replicate (C-l.length) (Value.int .u8 0)).toArray:=by apply Array.ext';simp
   rw[e]
 ·have hl:l=[]:=List.length_eq_zero_iff.1 (by omega);subst hl;cases p with
  |none=>refine(zj0 cap w).mono fun e' w' ⟨he,hw⟩=>⟨_,⟨0,true,0,[]⟩,he,by rw[hw];exact Keeps.refl _ _,by simp,fun L'=>.inl ⟨rfl,rfl,rfl,rfl⟩,fun L' hL=>⟨_,hL,fun _=>⟨rfl,rfl⟩,fun h=>by cases h⟩⟩
  |some a=>
   refine(zdA a 0 cap w (.slice (some ⟨w.heap.size,0,none⟩) 0 0) (w.alloc (.cells #[] 5)) fun ty=>?_).mono fun e' w' ⟨he,hw⟩=>⟨_,⟨w.heap.size,false,0,[w.heap.size]⟩,he,?_,by simp,fun L'=>?_,fun L' hL=>⟨_,hL,(fun h=>by cases h),fun _=>rfl⟩⟩
   ·have h1:=run_append_room (P:=Tryz.prog) (w:=w.alloc (.cells #[] 5)) 22 ty 5 i0 (by kernel_rfl) hi w.heap.size 0 0 #[] (hp _ _) a 0 cap [] (by simp) (by intro j u hj;simp at hj) (by intro u hu;cases hu) (by omega) (by simp);rw[h1];congr 1;have e:(List.take (0*i0.size) (#[]:Array Value).toList++[]++List.drop (0*i0.size+([]:List Value).length) (#[]:Array Value).toList).toArray= #[]:=by simp
    rw[e];exact setRow_self _ _ _ _ _ (hp w (.cells #[] 5))
   ·rw[hw];exact Keeps.of_below ((Below.refl _ _).alloc (Nat.le_refl _) _)
   ·rw[hw];exact .inr ⟨rfl,rfl,Nat.le_refl _,[],[],(0,0),hp _ _,rfl,rfl,by simp,Nat.le_refl _,fun j _ hj=>by omega⟩
end Go.Proofs.C06
end
section
set_option maxRecDepth 100000
set_option maxHeartbeats 4000000
namespace Go.Proofs.C06
open Go Go.RowKit Go.Vc Go.Am
def zuY:List (List UInt8×Int):=[([65,67,67,69,83,83],1),([65,68,86,65,78,67,73,78,71],1),([65,70,84,69,82],1),([65,76,76],1),([65,76,80,72,65,66,69,84,73,67],1),([65,76,83,79],1),([65,76,84,69,82,78,65,84,69],1),([65,78,68],1),([65,78,89],1),([65,82,69],1),([65,82,69,65],1),([65,82,69,65,83],1),([65,83,67,69,78,68,73,78,71],1),([65,83,83,73,71,78],1),([65,84],1),([65,87,65,89,45,70,82,79,77,45,90,69,82,79],1),([66,69,70,79,82,69],1),([66,73,78,65,82,89],1),([66,76,65,78,75],1),([66,76,79,67,75],1),([66,89],1),([67,70],1),([67,72],1),([67,72,65,82,65,67,84,69,82],1),([67,72,65,82,65,67,84,69,82,83],1),([67,76,65,83,83],1),([67,79,76,85,77,78],1),([67,79,77,80],1),([67,79,77,80,45,51],1),([67,79,77,80,85,84,65,84,73,79,78,65,76],1),([67,79,77,80,85,84,65,84,73,79,78,65,76,45,51],1),([67,79,78,70,73,71,85,82,65,84,73,79,78],1),([67,79,78,84,65,73,78,83],1),([67,79,78,84,69,78,84],1),([67,79,78,84,82,79,76],1),([67,79,78,84,82,79,76,83],1),([67,79,78,86,69,82,84,73,78,71],1),([67,79,80,89],1),([67,79,82,82],1),([67,79,82,82,69,83,80,79,78,68,73,78,71],1)]
def zuX:List (List UInt8×Int):=[([67,79,85,78,84],1),([68,65,84,65],1),([68,69],1),([68,69,67,76,65,82,65,84,73,86,69,83],1),([68,69,76,73,77,73,84,69,68],1),([68,69,76,73,77,73,84,69,82],1),([68,69,80,69,78,68,73,78,71],1),([68,69,83,67,69,78,68,73,78,71],1),([68,69,84,65,73,76],1),([68,73,86,73,83,73,79,78],1),([68,79,87,78],1),([68,85,80,76,73,67,65,84,69,83],1),([68,89,78,65,77,73,67],1),([69,76,83,69],1),([69,78,68],1),([69,78,68,45,65,68,68],1),([69,78,68,45,67,65,76,76],1),([69,78,68,45,67,79,77,80,85,84,69],1),([69,78,68,45,68,69,76,69,84,69],1),([69,78,68,45,68,73,86,73,68,69],1),([69,78,68,45,69,86,65,76,85,65,84,69],1),([69,78,68,45,73,70],1),([69,78,68,45,77,85,76,84,73,80,76,89],1),([69,78,68,45,80,69,82,70,79,82,77],1),([69,78,68,45,82,69,65,68],1),([69,78,68,45,82,69,84,85,82,78],1),([69,78,68,45,82,69,87,82,73,84,69],1),([69,78,68,45,83,69,65,82,67,72],1),([69,78,68,45,83,84,65,82,84],1),([69,78,68,45,83,84,82,73,78,71],1),([69,78,68,45,83,85,66,84,82,65,67,84],1),([69,78,68,45,85,78,83,84,82,73,78,71],1),([69,78,68,45,87,82,73,84,69],1),([69,78,86,73,82,79,78,77,69,78,84],1),([69,81,85,65,76],1),([69,82,82,79,82],1),([69,88,67,69,80,84,73,79,78],1),([69,88,84,69,78,68],1),([70,65,76,83,69],1),([70,68],1)]
def zuW:List (List UInt8×Int):=[([70,73,76,69],1),([70,73,76,69,45,67,79,78,84,82,79,76],1),([70,73,76,76,69,82],1),([70,73,78,65,76],1),([70,73,82,83,84],1),([70,79,79,84,73,78,71],1),([70,79,82],1),([70,82,79,77],1),([71,73,86,73,78,71],1),([71,82,69,65,84,69,82],1),([71,82,79,85,80],1),([72,69,65,68,73,78,71],1),([73,45,79],1),([73,45,79,45,67,79,78,84,82,79,76],1),([73,68,69,78,84,73,70,73,67,65,84,73,79,78],1),([73,78],1),([73,78,68,69,88,69,68],1),([73,78,68,73,67,65,84,69],1),([73,78,73,84,73,65,76],1),([73,78,80,85,84],1),([73,78,80,85,84,45,79,85,84,80,85,84],1),([73,78,84,79],1),([73,78,86,65,76,73,68],1),([73,83],1),([74,85,83,84],1),([74,85,83,84,73,70,73,69,68],1),([75,69,89],1),([76,65,66,69,76],1),([76,65,83,84],1),([76,69,65,68,73,78,71],1),([76,69,70,84],1),([76,69,83,83],1),([76,73,77,73,84],1),([76,73,77,73,84,83],1),([76,73,78,69],1),([76,73,78,69,83],1),([76,73,78,75,65,71,69],1),([77,79,68,69],1),([78,69,65,82,69,83,84,45,65,87,65,89,45,70,82,79,77,45,90,69,82,79],1),([78,69,65,82,69,83,84,45,69,86,69,78],1)]
def zuV:List (List UInt8×Int):=[([78,69,65,82,69,83,84,45,84,79,87,65,82,68,45,90,69,82,79],1),([78,69,71,65,84,73,86,69],1),([78,69,88,84],1),([78,79],1),([78,79,84],1),([78,85,77,66,69,82],1),([78,85,77,69,82,73,67],1),([79,67,67,85,82,83],1),([79,70],1),([79,70,70],1),([79,77,73,84,84,69,68],1),([79,78],1),([79,80,84,73,79,78,65,76],1),([79,82],1),([79,82,68,69,82],1),([79,82,71,65,78,73,90,65,84,73,79,78],1),([79,84,72,69,82],1),([79,85,84,80,85,84],1),([79,86,69,82,70,76,79,87],1),([80,65,67,75,69,68,45,68,69,67,73,77,65,76],1),([80,65,71,69],1),([80,70],1),([80,72],1),([80,73,67],1),([80,73,67,84,85,82,69],1),([80,76,85,83],1),([80,79,73,78,84,69,82],1),([80,79,83,73,84,73,86,69],1),([80,82,79,67,69,68,85,82,69],1),([80,82,79,67,69,69,68],1),([80,82,79,71,82,65,77],1),([80,82,79,71,82,65,77,45,73,68],1),([80,82,79,72,73,66,73,84,69,68],1),([82,65,78,68,79,77],1),([82,68],1),([82,69,67,79,82,68],1),([82,69,67,79,82,68,83],1),([82,69,68,69,70,73,78,69,83],1),([82,69,70,69,82,69,78,67,69],1),([82,69,76,65,84,73,86,69],1)]
def zuU:List (List UInt8×Int):=[([82,69,77,65,73,78,68,69,82],1),([82,69,78,65,77,69,83],1),([82,69,80,76,65,67,73,78,71],1),([82,69,80,79,82,84],1),([82,69,80,79,82,84,73,78,71],1),([82,69,80,79,82,84,83],1),([82,69,83,69,84],1),([82,70],1),([82,72],1),([82,73,71,72,84],1),([82,79,85,78,68,69,68],1),([82,85,78],1),([83,67,82,69,69,78],1),([83,68],1),([83,69,67,84,73,79,78],1),([83,69,76,69,67,84],1),([83,69,78,84,69,78,67,69],1),([83,69,80,65,82,65,84,69],1),([83,69,81,85,69,78,67,69],1),([83,69,81,85,69,78,84,73,65,76],1),([83,73,71,78],1),([83,73,90,69],1),([83,79,85,82,67,69],1),([83,84,65,78,68,65,82,68],1),([83,84,65,84,85,83],1),([83,85,77],1),([84,65,76,76,89,73,78,71],1),([84,69,83,84],1),([84,72,65,78],1),([84,72,69,78],1),([84,72,82,79,85,71,72],1),([84,72,82,85],1),([84,73,77,69,83],1),([84,79],1),([84,79,87,65,82,68,45,71,82,69,65,84,69,82],1),([84,79,87,65,82,68,45,76,69,83,83,69,82],1),([84,82,65,73,76,73,78,71],1),([84,82,85,69],1),([84,82,85,78,67,65,84,73,79,78],1),([84,89,80,69],1)]
def zuT:List (List UInt8×Int):=[([85,78,84,73,76],1),([85,80],1),([85,80,79,78],1),([85,83,65,71,69],1),([85,83,73,78,71],1),([86,65,76,85,69],1),([86,65,76,85,69,83],1),([86,65,82,89,73,78,71],1),([87,72,69,78],1),([87,73,84,72],1),([87,79,82,75,73,78,71,45,83,84,79,82,65,71,69],1),([65,67,67,69,80,84],2),([65,68,68],2),([65,76,84,69,82],2),([67,65,76,76],2),([67,65,78,67,69,76],2),([67,76,79,83,69],2),([67,79,77,80,85,84,69],2),([67,79,78,84,73,78,85,69],2),([68,69,76,69,84,69],2),([68,73,83,80,76,65,89],2),([68,73,86,73,68,69],2),([69,86,65,76,85,65,84,69],2),([69,88,73,84],2),([71,69,78,69,82,65,84,69],2),([71,79],2),([73,70],2),([73,78,73,84,73,65,76,73,90,69],2),([73,78,73,84,73,65,84,69],2),([73,78,83,80,69,67,84],2),([77,69,82,71,69],2),([77,79,86,69],2),([77,85,76,84,73,80,76,89],2),([79,80,69,78],2),([80,69,82,70,79,82,77],2),([82,69,65,68],2),([82,69,76,69,65,83,69],2),([82,69,84,85,82,78],2),([82,69,87,82,73,84,69],2),([83,69,65,82,67,72],2)]
def zuS:List (List UInt8×Int):=[([83,69,84],2),([83,79,82,84],2),([83,84,65,82,84],2),([83,84,79,80],2),([83,84,82,73,78,71],2),([83,85,66,84,82,65,67,84],2),([83,85,80,80,82,69,83,83],2),([84,69,82,77,73,78,65,84,69],2),([85,78,83,84,82,73,78,71],2),([85,83,69],2),([87,82,73,84,69],2),([90,69,82,79],3),([90,69,82,79,83],3),([90,69,82,79,69,83],3),([83,80,65,67,69],3),([83,80,65,67,69,83],3),([72,73,71,72,45,86,65,76,85,69],3),([72,73,71,72,45,86,65,76,85,69,83],3),([76,79,87,45,86,65,76,85,69],3),([76,79,87,45,86,65,76,85,69,83],3),([81,85,79,84,69],3),([81,85,79,84,69,83],3)]
def ze1:List (List UInt8×Int):=zuY++(zuX++(zuW++(zuV++(zuU++(zuT++(zuS))))))
def eqW:List UInt8→List UInt8→Bool
 |[],[]=>true
 |a::r,b::s=>cond (Nat.beq a.toNat b.toNat) (eqW r s) false
 |_,_=>false
def zli(l:List UInt8):List (List UInt8×Int)→Int
 |[]=>0
 |(w,n)::r=>cond (eqW l w) n (zli l r)
end Go.Proofs.C06
end
section
set_option maxHeartbeats 40000000
set_option maxRecDepth 100000
namespace Go.Proofs.C06
open Go Go.RowKit Go.Vc Go.Am
theorem zqx:Bas Tryz.prog GP4 zmB:=⟨mixed,fun R h=>zwB.hgl R h.1,zgQ.hst⟩
def zwc:List (AV×AV):=ze1.map fun x=>(.str x.1,.int .u8 x.2)
def zn7:RunW:=RunRow.runW [⟨97,[fields_con],[],[]⟩] [] (fun _=>false) 4000 (by kernel_rfl) (by kernel_rfl) [] (by kernel_rfl)
theorem zqD:WO Tryz.prog zmB zn7 1 97 [] []=some ⟨.map 0,[some (.mp zwc)]⟩:=by kernel_rfl
theorem zmX:∀C∈[fields_con],SoundC Tryz.prog GP4 C:=List.forall_mem_cons.2 ⟨zgz,fun _ h=>by cases h⟩
def ze6:Con:=zl2 97 (fun a _=>match a with
 |[]=>some ()
 |_=>none) (fun _=>some (.mp zwc)) .map
theorem zlL:SoundC Tryz.prog GP4 ze6:=zl5 (Zy zqx zn7 (fun g C hC=>by
 rcases List.mem_append.1 hC with hC|hC
 ·cases hC
 ·exact RunRow.sound (l:=[⟨97,[fields_con],[],[]⟩]) (List.forall_mem_cons.2 ⟨zmX,fun _ h=>by cases h⟩) g C hC) 1 97) (by kernel_rfl) zqD
def zfS:List (List UInt8):=[[84],[78],[65],[66],[67],[68],[69],[70],[88],[89],[90],[80],[73],[83],[87],[75],[90,69,82,79],[90,69,82,79,83],[83,80,65,67,69],[83,80,65,67,69,83],[67,72,65,82,65,67,84,69,82,83],[70,73,82,83,84],[65,76,76],[76,69,65,68,73,78,71],[83,73,90,69],[68,69,76,73,77,73,84,69,68],[73,78,84,79],[79,82],[67,79,85,78,84],[80,79,73,78,84,69,82],[84,65,76,76,89,73,78,71],[82,69,80,76,65,67,73,78,71],[85,78,83,84,82,73,78,71],[83,84,82,73,78,71],[79,86,69,82,70,76,79,87],[68,69,76,73,77,73,84,69,82],[66,89],[66,69,70,79,82,69],[65,70,84,69,82],[73,78,73,84,73,65,76],[84,79],[73,78],[87,73,84,72],[81,85,79,84,69],[65,78,68],[78,79,84],[73,83],[78,85,77,69,82,73,67],[66,73,71],[84,72,82,85],[84,72,82,79,85,71,72],[72,73,71,72,45,86,65,76,85,69],[82],[79,70],[],[40],[41],[43],[45],[42],[47],[42,42],[58],[61],[66,45,49],[53],[71],[88,65],[88,66],[88,67],[88,68],[88,69],[88,70],[88,71],[88,72],[88,73],[65,76,80,72,65,66,69,84,73,67],[65,76,80,72,65,78,85,77,69,82,73,67],[65,76,80,72,65,78,85,77,69,82,73,67,45,69,68,73,84,69,68],[78,85,77,69,82,73,67,45,69,68,73,84,69,68],[68,65,84,65]]
theorem zqh:∀(a b:List UInt8),eqW a b=true→a=b
 |[],[],_=>rfl
 |a::r,b::s,h=>by
  unfold eqW at h;cases hb:Nat.beq a.toNat b.toNat with
  |false=>rw[hb]at h;cases h
  |true=>rw[hb]at h;rw[UInt8.toNat_inj.1 (Nat.eq_of_beq_eq_true hb),zqh r s h]
 |[],_::_,h=>by cases h
 |_::_,[],h=>by cases h
def zpA(l:List UInt8):List (List UInt8)→Bool
 |[]=>false
 |w::r=>cond (eqW l w) true (zpA l r)
theorem zlg{l:List UInt8}:∀{ws:List (List UInt8)},zpA l ws=true→l∈ws
 |[],h=>by cases h
 |w::r,h=>by
  unfold zpA at h;cases hb:eqW l w with
  |true=>rw[zqh _ _ hb];exact List.mem_cons_self
  |false=>rw[hb]at h;exact List.mem_cons_of_mem _ (zlg h)
def ze3(a:List AV)(h:Heap):Option (List UInt8):=match a,h with
 |[.str l],[]=>some l
 |_,_=>none
def zkh:Con:=Con6.c ⟨64,List UInt8,Int,ze3,fun l=>chk (zpA l zfS) (some (zli l ze1)),fun _ n=>⟨.int .u8 n,[]⟩⟩
def zuF:RunW:=RunRow.runW [⟨64,[ze6],[],[]⟩] [] (fun _=>false) 4000 (by kernel_rfl) (by kernel_rfl) [] (by kernel_rfl)
def zju:Option Out→Int→Bool
 |some ⟨.int .u8 n,[]⟩,m=>decide (n=m)
 |_,_=>false
theorem zma{o:Option Out}{m:Int}(h:zju o m=true):o=some ⟨.int .u8 m,[]⟩:=by
 unfold zju at h;split at h
 ·rw[of_decide_eq_true h]
 ·cases h
theorem ztL:zfS.all (fun l=>zju (WO Tryz.prog zmB zuF 1 64 [.str l] []) (zli l ze1))=true:=by kernel_rfl
theorem zlJ:SoundC Tryz.prog GP4 zkh:=by
 intro args h l r hd hs;have hd:ze3 args h=some l:=hd;unfold ze3 at hd;split at hd
 ·cases hd;obtain⟨hm,hs⟩:=zp (show chk (zpA l zfS) (some (zli l ze1))=some r from hs);cases hs;have hr:=zma (List.all_eq_true.1 ztL l (zlg hm));exact Zy zqx zuF (fun g C hC=>by
   rcases List.mem_append.1 hC with hC|hC
   ·cases hC
   ·exact RunRow.sound (l:=[⟨64,[ze6],[],[]⟩]) (List.forall_mem_cons.2 ⟨List.forall_mem_cons.2 ⟨zlL,fun _ h=>by cases h⟩,fun _ h=>by cases h⟩) g C hC) 1 64 [.str l] [] ([.str l],[]) _ rfl hr
 ·cases hd
end Go.Proofs.C06
end
