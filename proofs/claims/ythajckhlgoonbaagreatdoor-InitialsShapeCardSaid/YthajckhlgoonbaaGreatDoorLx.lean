/-
  A part of the proof of the laws.
-/
import Derived.Test.YthajckhlgoonbaaGreatDoorIn
import Derived.Test.YthajckhlgoonbaaGreatDoorSh
import Derived.Test.YthajckhlgoonbaaGreatDoorShelf
import Derived.Shelf.Spec.SlicesGrow
import Derived.Lib.LazyBuf
section
set_option maxHeartbeats 4000000
set_option maxRecDepth 100000
namespace Go.Proofs.C06
open Go Go.RowKit Go.Vc Go.Am
def GP4(R:Ro):Prop:=GP3 R
theorem zyl:Bas Tryz.prog GP4 gl3:=Y1
theorem qK{C:Con}(h:SoundC Tryz.prog GP3 C):SoundC Tryz.prog GP4 C:=h
end Go.Proofs.C06
end
section
set_option maxHeartbeats 4000000
set_option maxRecDepth 100000
namespace Go.Proofs.C06
open Go Go.RowKit Go.Vc Go.Am
theorem zgt(n:Nat):Builtin.zeroCells (Value.int .u8 0).cells n=(List.replicate n (Value.int .u8 0)).toArray:=by
 apply uAy;apply uBo;intro i;unfold Builtin.zeroCells;have hc:(Value.int .u8 0).cells= #[Value.int .u8 0]:=rfl;rw[hc];simp[List.getElem?_replicate,Nat.mod_one];by_cases h:i<n
 ·simp[h]
 ·simp[h]
theorem ztQ:∃i0,Tryz.prog.info? 5=some i0/\i0.size=1/\i0.bytes=1/\i0.zero=some (.int .u8 0):=by
 have h:(match Tryz.prog.info? 5 with
  |some i=>Nat.beq i.size 1&&(Nat.beq i.bytes 1&&(match i.zero with
   |some (.int .u8 z)=>decide (z=0)
   |_=>false))
  |none=>false)=true:=by kernel_rfl
 split at h
 ·rename_i i hi;simp only[mY]at h;obtain⟨h1,h2,h3⟩:=h;refine⟨i,hi,mV h1,mV h2,?_⟩;split at h3
  ·rename_i z hz;rw[hz,of_decide_eq_true h3]
  ·cases h3
 ·cases h
end Go.Proofs.C06
end
section
set_option maxRecDepth 100000
set_option maxHeartbeats 4000000
namespace Go.Proofs.C06
open Go Go.RowKit Go.Vc Go.Am
end Go.Proofs.C06
end
section
set_option maxHeartbeats 40000000
set_option maxRecDepth 100000
namespace Go.Proofs.C06
open Go Go.RowKit Go.Vc Go.Am
theorem zx2:Bas Tryz.prog GP4 zvj:=zv5
end Go.Proofs.C06
end
section
set_option maxHeartbeats 4000000
set_option maxRecDepth 100000
namespace Go.Proofs.C06
open Go Go.RowKit Go.Vc Go.Am
theorem zom(cap:Nat)(w:World):Calls Tryz.prog 32 #[.slice none 0 cap] w fun e w'=>e=.returned (.slice none 0 0)/\w'=w:=by
 have q22:∀(w:World)(a:Option Addr)(n c:Nat),(binOp .eql 24 (.slice a n c) (.slice none 0 0)).run Tryz.prog w=.ok (.bool a.isNone) w:=fun w a n c=>Lib.run_eql_slice_nil w 24 5 a n c 0 0 (by kernel_rfl)
 go_enter Tryz.func32,Tryz.ntmps32
 go_wp2
 go_ret
 exact⟨rfl,rfl⟩
theorem zf5(a:Addr)(n c:Nat)(w:World)(v:Value)(w2:World)(hap:∀ty,(Builtin.append_ #[24,24] ty #[.slice (some ⟨w.heap.size,0,none⟩) 0 0,.slice (some a) n c]).run Tryz.prog (w.alloc (.cells #[] 5))=.ok v w2):Calls Tryz.prog 32 #[.slice (some a) n c] w fun e w'=>e=.returned v/\w'=w2:=by
 have q22:∀(w:World)(a:Option Addr)(n c:Nat),(binOp .eql 24 (.slice a n c) (.slice none 0 0)).run Tryz.prog w=.ok (.bool a.isNone) w:=fun w a n c=>Lib.run_eql_slice_nil w 24 5 a n c 0 0 (by kernel_rfl)
 go_enter Tryz.func32,Tryz.ntmps32
 go_wp2_with (at_builtin;refine Lib.wpList_append_run _ rfl _ _ _ _ rfl _ _ rfl rfl _ _ (hap _) ?_)
 all_goals (go_ret;exact⟨rfl,rfl⟩)
def d1b(a:List AV)(h:Heap):Option uBH:=match a with
 |[v]=>qr h (un v)
 |_=>none
theorem zxf{args:List AV}{h:Heap}{l:uBH}(e:d1b args h=some l){R:Ro}{G:List Res}{w:World}{vs:List Value}(W:WRel R G h w)(hr:RelL (Am.look G h) R args vs):
  ∃p c,vs=[.slice p l.length c]/\l.length<=c/\Lib.BytesIn w p l.length (Q6 l):=by
 unfold d1b at e;split at e
 ·obtain⟨u,us,rfl,r1,rfl⟩:=hr;obtain⟨p,c,rfl,g1,g2⟩:=zjN W e (Z8 r1);exact⟨p,c,rfl,g1,g2⟩
 ·cases e
def zgh:Con:=zxK 32 d1b (fun l=>chk (Nat.ble l.length 1000000000000) (some (.bytes 5 l))) (fun i=>.rw i)
theorem zoG{w:World}{ob:Obj}{a:Addr}{v:Value}(h:w.cell? a=some v):(w.alloc ob).cell? a=some v:=by
 have hb:a.block<w.heap.size:=by
  rcases uA9 a.block w.heap.size with h'|h'
  ·exact h'
  ·exfalso;unfold World.cell? at h;rw[Array.getElem?_eq_none h']at h;cases h
 have e:(w.alloc ob).heap[a.block]? =w.heap[a.block]? :=by show(w.heap.push ob)[a.block]? =w.heap[a.block]?;rw[Array.getElem?_push,if_neg (by omega)]
 unfold World.cell? at h⊢;rw[e];exact h
theorem zjS:SoundC Tryz.prog GP4 zgh:=znC (jM (by kernel_rfl)) fun args h l ao R G w vs hd hs hG W hr=>by
 obtain⟨hc,hs⟩:=zp hs;cases hs;have hc:=nN hc;obtain⟨p,cap,rfl,hcap,hb⟩:=zxf hd W hr;have hp:∀(w:World)(ob:Obj),(w.alloc ob).heap[w.heap.size]? =some ob:=fun w ob=>by show(w.heap.push ob)[w.heap.size]? =some ob;rw[Array.getElem?_push_size]
 obtain⟨i0,hi,e1,e2,e3⟩:=ztQ;by_cases h0:0<l.length
 ·obtain⟨b,o,rfl,hcell⟩:=hb h0;have hap:∀ty,(Builtin.append_ #[24,24] ty #[.slice (some ⟨w.heap.size,0,none⟩) 0 0,.slice (some ⟨b,o,none⟩) l.length cap]).run Tryz.prog (w.alloc (.cells #[] 5))=_:=fun ty=>
   run_append_grow (P:=Tryz.prog) (w.alloc (.cells #[] 5)) 24 ty 5 i0 (.int .u8 0) (by kernel_rfl) hi e3 ⟨w.heap.size,0,none⟩ 0 0 [] (by simp) (by intro j v hj;simp at hj) ⟨b,o,none⟩ l.length cap (l.map u8V) (by rw[uAn,e1,nM])
    (fun j v hj=>by
     have hjl:j<l.length:=by have:=(mX.1 hj).1;simpa using this
     rw[jG];have h1:=zoG (ob:=.cells #[] 5) (hcell j hjl);have h2:(Q6 l).getD j 0=(l[j].toNat:Int):=by rw[mZ];unfold Q6;rw[uAq,mW hjl];rfl
     rw[h1,h2];rw[uAq,mW hjl]at hj;exact hj)
    (by omega) (by omega) (growslice_fits (by omega) (by rw[e2];omega))
  have hsz:(w.alloc (.cells #[] 5)).heap.size=w.heap.size+1:=by show(w.heap.push _).size=_;rw[Array.size_push]
  have hge:=grownCap_ge (w.alloc (.cells #[] 5)) (0+l.length) 0 5;refine(zf5 ⟨b,o,none⟩ l.length cap w _ _ hap).mono fun e' w' ⟨he,hw⟩=>?_
  generalize grownCap (w.alloc (.cells #[] 5)) (0+l.length) 0 5=C at he hw hge;rw[hsz,uAU]at he;refine⟨_,⟨w.heap.size+1,false,C,[w.heap.size+1]⟩,he,?_,by simp,fun L'=>?_,fun L' hL=>⟨_,hL,(fun h=>by cases h),fun _=>rfl⟩⟩
  ·rw[hw];exact Keeps.of_below ((((Below.refl _ _).alloc (nB _) _).drew).alloc (by show w.heap.size<=(w.alloc (.cells #[] 5)).heap.size;rw[hsz];omega) _)
  ·rw[hw];refine .inr ⟨rfl,rfl,(by show l.length<=C;omega),l.map u8V,List.replicate (C-l.length) (.int .u8 0),(0,0),?_,rfl,by simp,by simp;omega,nB _,fun j _ hj=>by omega⟩;have h3:=hp (w.alloc (.cells #[] 5)).drew (.cells (([]:List Value).toArray++(l.map u8V).toArray++Builtin.zeroCells (Value.int .u8 0).cells (C-(0+l.length))) 5);rw[show(w.alloc (.cells #[] 5)).drew.heap.size=w.heap.size+1 from hsz]at h3;refine h3.trans ?_;rw[zgt,uAU];have e:([]:List Value).toArray++(l.map u8V).toArray++(List.replicate (C-l.length) (Value.int .u8 0)).toArray=(l.map u8V++List.replicate (C-l.length) (Value.int .u8 0)).toArray:=by apply uAy;simp
   rw[e]
 ·have hl:l=[]:=nX.1 (by omega);subst hl;cases p with
  |none=>refine(zom cap w).mono fun e' w' ⟨he,hw⟩=>⟨_,⟨0,true,0,[]⟩,he,by rw[hw];exact Keeps.refl _ _,by simp,fun L'=>.inl ⟨rfl,rfl,rfl,rfl⟩,fun L' hL=>⟨_,hL,fun _=>⟨rfl,rfl⟩,fun h=>by cases h⟩⟩
  |some a=>
   refine(zf5 a 0 cap w (.slice (some ⟨w.heap.size,0,none⟩) 0 0) (w.alloc (.cells #[] 5)) fun ty=>?_).mono fun e' w' ⟨he,hw⟩=>⟨_,⟨w.heap.size,false,0,[w.heap.size]⟩,he,?_,by simp,fun L'=>?_,fun L' hL=>⟨_,hL,(fun h=>by cases h),fun _=>rfl⟩⟩
   ·have h1:=run_append_room (P:=Tryz.prog) (w:=w.alloc (.cells #[] 5)) 24 ty 5 i0 (by kernel_rfl) hi w.heap.size 0 0 #[] (hp _ _) a 0 cap [] (by simp) (by intro j u hj;simp at hj) (by intro u hu;cases hu) (by omega) (by simp);rw[h1];congr 1;have e:(List.take (0*i0.size) (#[]:Array Value).toList++[]++List.drop (0*i0.size+([]:List Value).length) (#[]:Array Value).toList).toArray= #[]:=by simp
    rw[e];exact setRow_self _ _ _ _ _ (hp w (.cells #[] 5))
   ·rw[hw];exact Keeps.of_below ((Below.refl _ _).alloc (nB _) _)
   ·rw[hw];exact .inr ⟨rfl,rfl,nB _,[],[],(0,0),hp _ _,rfl,rfl,rfl,nB _,fun j _ hj=>by omega⟩
end Go.Proofs.C06
end
