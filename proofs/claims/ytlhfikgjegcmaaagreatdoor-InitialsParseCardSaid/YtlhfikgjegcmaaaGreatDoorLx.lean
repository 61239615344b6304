/-
  A part of the proof of the laws.
-/
import Derived.Test.YtlhfikgjegcmaaaGreatDoorIn
import Derived.Test.YtlhfikgjegcmaaaGreatDoorSh
import Derived.Test.YtlhfikgjegcmaaaGreatDoorShelf
import Derived.Shelf.Spec.SlicesGrow
import Derived.Lib.LazyBuf
section
set_option maxHeartbeats 4000000
set_option maxRecDepth 100000
namespace Go.Proofs.C06
open Go Go.RowKit Go.Vc Go.Am
def GP4(R:Ro):Prop:=GP3 R/\∃T fr,R 0=some (.cells (Lib.asciiSpaceTab.map fun z=>Value.int .u8 z).toArray T fr)
theorem zgU:Bas Tryz.prog GP4 gl3:=⟨mixed,fun _ h=>ziu.hgl _ h.1,fun R R' hs h=>⟨ziu.hst R R' hs h.1,by obtain⟨T,fr,e⟩:=h.2;exact⟨T,fr,hs _ _ e⟩⟩⟩
theorem yZ{C:Con}(h:SoundC Tryz.prog GP3 C):SoundC Tryz.prog GP4 C:=fun args hh x r hd hs=>
 let⟨h1,h2⟩:=h args hh x r hd hs
 ⟨h1,fun R G w vs hG W hargs=>h2 R G w vs hG.1 W hargs⟩
def d1s(a:List AV)(_:Heap):Option mQ:=match a with
 |[.str l]=>some l
 |_=>none
theorem zjC{a:List AV}{h:Heap}{l:mQ}(e:d1s a h=some l):a=[.str l]:=by
 unfold d1s at e;split at e
 ·cases e;rfl
 ·cases e
def fields_con:Con:=zfY 57 d1s (fun l=>chk (l.all (fun b=>Nat.blt b.toNat 128)&&Nat.blt l.length 4294967281) (some (.strs 9 (Lib.fields l)))) (fun i=>.rwf i)
theorem zaO:SoundC Tryz.prog GP4 fields_con:=YA (ji (by kernel_rfl)) fun args h l ao R G w vs hd hs hG W hr=>by
 have e:=zjC hd;subst e;obtain⟨hc,hs⟩:=zg hs;cases hs;rw[wN]at hc;obtain⟨u,us,rfl,hu,hus⟩:=hr;have hus:us=[]:=hus;have hu:u=.string (bs l):=hu;subst hus hu;obtain⟨T,fr,hR⟩:=hG.2;have hw:=W.ro _ _ hR;have htab:Lib.TabIs Tryz.prog w "strings.asciiSpace" .u8 Lib.asciiSpaceTab:=by unfold Lib.TabIs World.var?;rw[show Tryz.prog.globalNamed "strings.asciiSpace" =some 0 from by kernel_rfl];simp[hw]
 have hbs:(bs l).data.toList=l:=by simp[bs]
 have hsz:(bs l).size=l.length:=by simp[bs,ByteArray.size]
 refine(Tryz.strings_Fields (bs l) w (by rw[hsz];exact wS hc.2) (fun j b hj=>?_) htab).mono fun e w' ⟨he,hw'⟩=>?_
 ·rw[hbs]at hj;exact wS (wW.1 hc.1 b (xN hj))
 ·rw[hbs]at he hw';refine⟨_,⟨w.heap.size,false,(Lib.fields l).length,[w.heap.size]⟩,he,by rw[hw'];exact Keeps.of_below ((Below.refl _ _).alloc (wP _) _),by simp,fun L'=>?_,fun L' hL=>?_⟩
  ·rw[hw'];refine .inr ⟨rfl,rfl,wP _,(Lib.fields l).map (fun l=>Value.string (bs l)),[],(0,0),?_,rfl,by simp,by simp,wP _,fun j _ hj=>by omega⟩;have hp:∀ob:Obj,(w.alloc ob).heap[w.heap.size]? =some ob:=fun ob=>by show(w.heap.push ob)[w.heap.size]? =some ob;rw[Array.getElem?_push_size]
   rw[hp,kN];rfl
  ·exact⟨_,hL,rfl,rfl,rfl⟩
end Go.Proofs.C06
end
section
set_option maxHeartbeats 4000000
set_option maxRecDepth 100000
namespace Go.Proofs.C06
open Go Go.RowKit Go.Vc Go.Am
theorem VK(n:Nat):Builtin.zeroCells (Value.int .u8 0).cells n=(List.replicate n (Value.int .u8 0)).toArray:=by
 apply xS;apply mL;intro i;unfold Builtin.zeroCells;have hc:(Value.int .u8 0).cells= #[Value.int .u8 0]:=rfl;rw[hc];simp[List.getElem?_replicate,Nat.mod_one];by_cases h:i<n
 ·simp[h]
 ·simp[h]
theorem zg1:∃i0,Tryz.prog.info? 5=some i0/\i0.size=1/\i0.bytes=1/\i0.zero=some (.int .u8 0):=by
 have h:(match Tryz.prog.info? 5 with
  |some i=>Nat.beq i.size 1&&(Nat.beq i.bytes 1&&(match i.zero with
   |some (.int .u8 z)=>decide (z=0)
   |_=>false))
  |none=>false)=true:=by kernel_rfl
 split at h
 ·rename_i i hi;simp only[wN]at h;obtain⟨h1,h2,h3⟩:=h;refine⟨i,hi,wL h1,wL h2,?_⟩;split at h3
  ·rename_i z hz;rw[hz,of_decide_eq_true h3]
  ·cases h3
 ·cases h
end Go.Proofs.C06
end
section
set_option maxRecDepth 100000
set_option maxHeartbeats 4000000
namespace Go.Proofs.C06
open Go Go.RowKit Go.Vc Go.Am
def ziU:List (mQ×Int):=[([65,67,67,69,83,83],1),([65,68,86,65,78,67,73,78,71],1),([65,70,84,69,82],1),([65,76,76],1),([65,76,80,72,65,66,69,84,73,67],1),([65,76,83,79],1),([65,76,84,69,82,78,65,84,69],1),([65,78,68],1),([65,78,89],1),([65,82,69],1),([65,82,69,65],1),([65,82,69,65,83],1),([65,83,67,69,78,68,73,78,71],1),([65,83,83,73,71,78],1),([65,84],1),([65,87,65,89,45,70,82,79,77,45,90,69,82,79],1),([66,69,70,79,82,69],1),([66,73,78,65,82,89],1),([66,76,65,78,75],1),([66,76,79,67,75],1),([66,89],1),([67,70],1),([67,72],1),([67,72,65,82,65,67,84,69,82],1),([67,72,65,82,65,67,84,69,82,83],1),([67,76,65,83,83],1),([67,79,76,85,77,78],1),([67,79,77,80],1),([67,79,77,80,45,51],1),([67,79,77,80,85,84,65,84,73,79,78,65,76],1),([67,79,77,80,85,84,65,84,73,79,78,65,76,45,51],1),([67,79,78,70,73,71,85,82,65,84,73,79,78],1),([67,79,78,84,65,73,78,83],1),([67,79,78,84,69,78,84],1),([67,79,78,84,82,79,76],1),([67,79,78,84,82,79,76,83],1),([67,79,78,86,69,82,84,73,78,71],1),([67,79,80,89],1),([67,79,82,82],1),([67,79,82,82,69,83,80,79,78,68,73,78,71],1)]
def ziT:List (mQ×Int):=[([67,79,85,78,84],1),([68,65,84,65],1),([68,69],1),([68,69,67,76,65,82,65,84,73,86,69,83],1),([68,69,76,73,77,73,84,69,68],1),([68,69,76,73,77,73,84,69,82],1),([68,69,80,69,78,68,73,78,71],1),([68,69,83,67,69,78,68,73,78,71],1),([68,69,84,65,73,76],1),([68,73,86,73,83,73,79,78],1),([68,79,87,78],1),([68,85,80,76,73,67,65,84,69,83],1),([68,89,78,65,77,73,67],1),([69,76,83,69],1),([69,78,68],1),([69,78,68,45,65,68,68],1),([69,78,68,45,67,65,76,76],1),([69,78,68,45,67,79,77,80,85,84,69],1),([69,78,68,45,68,69,76,69,84,69],1),([69,78,68,45,68,73,86,73,68,69],1),([69,78,68,45,69,86,65,76,85,65,84,69],1),([69,78,68,45,73,70],1),([69,78,68,45,77,85,76,84,73,80,76,89],1),([69,78,68,45,80,69,82,70,79,82,77],1),([69,78,68,45,82,69,65,68],1),([69,78,68,45,82,69,84,85,82,78],1),([69,78,68,45,82,69,87,82,73,84,69],1),([69,78,68,45,83,69,65,82,67,72],1),([69,78,68,45,83,84,65,82,84],1),([69,78,68,45,83,84,82,73,78,71],1),([69,78,68,45,83,85,66,84,82,65,67,84],1),([69,78,68,45,85,78,83,84,82,73,78,71],1),([69,78,68,45,87,82,73,84,69],1),([69,78,86,73,82,79,78,77,69,78,84],1),([69,81,85,65,76],1),([69,82,82,79,82],1),([69,88,67,69,80,84,73,79,78],1),([69,88,84,69,78,68],1),([70,65,76,83,69],1),([70,68],1)]
def ziS:List (mQ×Int):=[([70,73,76,69],1),([70,73,76,69,45,67,79,78,84,82,79,76],1),([70,73,76,76,69,82],1),([70,73,78,65,76],1),([70,73,82,83,84],1),([70,79,79,84,73,78,71],1),([70,79,82],1),([70,82,79,77],1),([71,73,86,73,78,71],1),([71,82,69,65,84,69,82],1),([71,82,79,85,80],1),([72,69,65,68,73,78,71],1),([73,45,79],1),([73,45,79,45,67,79,78,84,82,79,76],1),([73,68,69,78,84,73,70,73,67,65,84,73,79,78],1),([73,78],1),([73,78,68,69,88,69,68],1),([73,78,68,73,67,65,84,69],1),([73,78,73,84,73,65,76],1),([73,78,80,85,84],1),([73,78,80,85,84,45,79,85,84,80,85,84],1),([73,78,84,79],1),([73,78,86,65,76,73,68],1),([73,83],1),([74,85,83,84],1),([74,85,83,84,73,70,73,69,68],1),([75,69,89],1),([76,65,66,69,76],1),([76,65,83,84],1),([76,69,65,68,73,78,71],1),([76,69,70,84],1),([76,69,83,83],1),([76,73,77,73,84],1),([76,73,77,73,84,83],1),([76,73,78,69],1),([76,73,78,69,83],1),([76,73,78,75,65,71,69],1),([77,79,68,69],1),([78,69,65,82,69,83,84,45,65,87,65,89,45,70,82,79,77,45,90,69,82,79],1),([78,69,65,82,69,83,84,45,69,86,69,78],1)]
def ziR:List (mQ×Int):=[([78,69,65,82,69,83,84,45,84,79,87,65,82,68,45,90,69,82,79],1),([78,69,71,65,84,73,86,69],1),([78,69,88,84],1),([78,79],1),([78,79,84],1),([78,85,77,66,69,82],1),([78,85,77,69,82,73,67],1),([79,67,67,85,82,83],1),([79,70],1),([79,70,70],1),([79,77,73,84,84,69,68],1),([79,78],1),([79,80,84,73,79,78,65,76],1),([79,82],1),([79,82,68,69,82],1),([79,82,71,65,78,73,90,65,84,73,79,78],1),([79,84,72,69,82],1),([79,85,84,80,85,84],1),([79,86,69,82,70,76,79,87],1),([80,65,67,75,69,68,45,68,69,67,73,77,65,76],1),([80,65,71,69],1),([80,70],1),([80,72],1),([80,73,67],1),([80,73,67,84,85,82,69],1),([80,76,85,83],1),([80,79,73,78,84,69,82],1),([80,79,83,73,84,73,86,69],1),([80,82,79,67,69,68,85,82,69],1),([80,82,79,67,69,69,68],1),([80,82,79,71,82,65,77],1),([80,82,79,71,82,65,77,45,73,68],1),([80,82,79,72,73,66,73,84,69,68],1),([82,65,78,68,79,77],1),([82,68],1),([82,69,67,79,82,68],1),([82,69,67,79,82,68,83],1),([82,69,68,69,70,73,78,69,83],1),([82,69,70,69,82,69,78,67,69],1),([82,69,76,65,84,73,86,69],1)]
def ziQ:List (mQ×Int):=[([82,69,77,65,73,78,68,69,82],1),([82,69,78,65,77,69,83],1),([82,69,80,76,65,67,73,78,71],1),([82,69,80,79,82,84],1),([82,69,80,79,82,84,73,78,71],1),([82,69,80,79,82,84,83],1),([82,69,83,69,84],1),([82,70],1),([82,72],1),([82,73,71,72,84],1),([82,79,85,78,68,69,68],1),([82,85,78],1),([83,67,82,69,69,78],1),([83,68],1),([83,69,67,84,73,79,78],1),([83,69,76,69,67,84],1),([83,69,78,84,69,78,67,69],1),([83,69,80,65,82,65,84,69],1),([83,69,81,85,69,78,67,69],1),([83,69,81,85,69,78,84,73,65,76],1),([83,73,71,78],1),([83,73,90,69],1),([83,79,85,82,67,69],1),([83,84,65,78,68,65,82,68],1),([83,84,65,84,85,83],1),([83,85,77],1),([84,65,76,76,89,73,78,71],1),([84,69,83,84],1),([84,72,65,78],1),([84,72,69,78],1),([84,72,82,79,85,71,72],1),([84,72,82,85],1),([84,73,77,69,83],1),([84,79],1),([84,79,87,65,82,68,45,71,82,69,65,84,69,82],1),([84,79,87,65,82,68,45,76,69,83,83,69,82],1),([84,82,65,73,76,73,78,71],1),([84,82,85,69],1),([84,82,85,78,67,65,84,73,79,78],1),([84,89,80,69],1)]
def ziP:List (mQ×Int):=[([85,78,84,73,76],1),([85,80],1),([85,80,79,78],1),([85,83,65,71,69],1),([85,83,73,78,71],1),([86,65,76,85,69],1),([86,65,76,85,69,83],1),([86,65,82,89,73,78,71],1),([87,72,69,78],1),([87,73,84,72],1),([87,79,82,75,73,78,71,45,83,84,79,82,65,71,69],1),([65,67,67,69,80,84],2),([65,68,68],2),([65,76,84,69,82],2),([67,65,76,76],2),([67,65,78,67,69,76],2),([67,76,79,83,69],2),([67,79,77,80,85,84,69],2),([67,79,78,84,73,78,85,69],2),([68,69,76,69,84,69],2),([68,73,83,80,76,65,89],2),([68,73,86,73,68,69],2),([69,86,65,76,85,65,84,69],2),([69,88,73,84],2),([71,69,78,69,82,65,84,69],2),([71,79],2),([73,70],2),([73,78,73,84,73,65,76,73,90,69],2),([73,78,73,84,73,65,84,69],2),([73,78,83,80,69,67,84],2),([77,69,82,71,69],2),([77,79,86,69],2),([77,85,76,84,73,80,76,89],2),([79,80,69,78],2),([80,69,82,70,79,82,77],2),([82,69,65,68],2),([82,69,76,69,65,83,69],2),([82,69,84,85,82,78],2),([82,69,87,82,73,84,69],2),([83,69,65,82,67,72],2)]
def ziO:List (mQ×Int):=[([83,69,84],2),([83,79,82,84],2),([83,84,65,82,84],2),([83,84,79,80],2),([83,84,82,73,78,71],2),([83,85,66,84,82,65,67,84],2),([83,85,80,80,82,69,83,83],2),([84,69,82,77,73,78,65,84,69],2),([85,78,83,84,82,73,78,71],2),([85,83,69],2),([87,82,73,84,69],2),([90,69,82,79],3),([90,69,82,79,83],3),([90,69,82,79,69,83],3),([83,80,65,67,69],3),([83,80,65,67,69,83],3),([72,73,71,72,45,86,65,76,85,69],3),([72,73,71,72,45,86,65,76,85,69,83],3),([76,79,87,45,86,65,76,85,69],3),([76,79,87,45,86,65,76,85,69,83],3),([81,85,79,84,69],3),([81,85,79,84,69,83],3)]
def yH:List (mQ×Int):=ziU++(ziT++(ziS++(ziR++(ziQ++(ziP++(ziO))))))
def eqW:mQ->mQ->Bool
 |[],[]=>true
 |a::r,b::s=>cond (Nat.beq a.toNat b.toNat) (eqW r s) false
 |_,_=>false
def Zc(l:mQ):List (mQ×Int)->Int
 |[]=>0
 |(w,n)::r=>cond (eqW l w) n (Zc l r)
end Go.Proofs.C06
end
section
set_option maxHeartbeats 40000000
set_option maxRecDepth 100000
namespace Go.Proofs.C06
open Go Go.RowKit Go.Vc Go.Am
theorem zgT:Bas Tryz.prog GP4 zeX:=⟨mixed,fun R h=>zke.hgl R h.1,zgU.hst⟩
def zjP:List (AV×AV):=yH.map fun x=>(.str x.1,.int .u8 x.2)
def zfG:RunW:=RunRow.runW [⟨40,[fields_con],[],[]⟩] [] (fun _=>false) 4000 (by kernel_rfl) (by kernel_rfl) [] (by kernel_rfl)
theorem zg3:XE Tryz.prog zeX zfG 1 40 [] []=some ⟨.map 0,[some (.mp zjP)]⟩:=by kernel_rfl
theorem zfp:∀C∈[fields_con],SoundC Tryz.prog GP4 C:=wT.2 ⟨zaO,fun _ h=>by cases h⟩
def WZ:Con:=zfY 40 (fun a _=>match a with
 |[]=>some ()
 |_=>none) (fun _=>some (.mp zjP)) .map
theorem zeu:SoundC Tryz.prog GP4 WZ:=zeQ (qQ zgT zfG (fun g C hC=>by
 rcases xB.1 hC with hC|hC
 ·cases hC
 ·exact RunRow.sound (l:=[⟨40,[fields_con],[],[]⟩]) (wT.2 ⟨zfp,fun _ h=>by cases h⟩) g C hC) 1 40) (by kernel_rfl) zg3
def qi:List mQ:=[[84],[78],[65],[66],[67],[68],[69],[70],[88],[89],[90],[80],[73],[83],[87],[75],[90,69,82,79],[90,69,82,79,83],[83,80,65,67,69],[83,80,65,67,69,83],[67,72,65,82,65,67,84,69,82,83],[70,73,82,83,84],[65,76,76],[76,69,65,68,73,78,71],[83,73,90,69],[68,69,76,73,77,73,84,69,68],[73,78,84,79],[79,82],[67,79,85,78,84],[80,79,73,78,84,69,82],[84,65,76,76,89,73,78,71],[82,69,80,76,65,67,73,78,71],[85,78,83,84,82,73,78,71],[83,84,82,73,78,71],[79,86,69,82,70,76,79,87],[68,69,76,73,77,73,84,69,82],[66,89],[66,69,70,79,82,69],[65,70,84,69,82],[73,78,73,84,73,65,76],[84,79],[73,78],[87,73,84,72],[81,85,79,84,69],[65,78,68],[78,79,84],[73,83],[78,85,77,69,82,73,67],[66,73,71],[84,72,82,85],[84,72,82,79,85,71,72],[72,73,71,72,45,86,65,76,85,69],[82],[79,70],[],[40],[41],[43],[45],[42],[47],[42,42],[58],[61],[66,45,49],[53],[71],[88,65],[88,66],[88,67],[88,68],[88,69],[88,70],[88,71],[88,72],[88,73],[65,76,80,72,65,66,69,84,73,67],[65,76,80,72,65,78,85,77,69,82,73,67],[65,76,80,72,65,78,85,77,69,82,73,67,45,69,68,73,84,69,68],[78,85,77,69,82,73,67,45,69,68,73,84,69,68],[68,65,84,65]]
theorem zgB:∀(a b:mQ),eqW a b=true->a=b
 |[],[],_=>rfl
 |a::r,b::s,h=>by
  unfold eqW at h;cases hb:Nat.beq a.toNat b.toNat with
  |false=>rw[hb]at h;cases h
  |true=>rw[hb]at h;rw[UInt8.toNat_inj.1 (wL hb),zgB r s h]
 |[],_::_,h=>by cases h
 |_::_,[],h=>by cases h
def XI(l:mQ):List mQ->Bool
 |[]=>false
 |w::r=>cond (eqW l w) true (XI l r)
theorem zd7{l:mQ}:∀{ws:List mQ},XI l ws=true->l∈ws
 |[],h=>by cases h
 |w::r,h=>by
  unfold XI at h;cases hb:eqW l w with
  |true=>rw[zgB _ _ hb];exact xO
  |false=>rw[hb]at h;exact xL _ (zd7 h)
def WU(a:List AV)(h:Heap):Option mQ:=match a,h with
 |[.str l],[]=>some l
 |_,_=>none
def zdU:Con:=Con6.c ⟨19,mQ,Int,WU,fun l=>chk (XI l qi) (some (Zc l yH)),fun _ n=>⟨.int .u8 n,[]⟩⟩
def ziE:RunW:=RunRow.runW [⟨19,[WZ],[],[]⟩] [] (fun _=>false) 4000 (by kernel_rfl) (by kernel_rfl) [] (by kernel_rfl)
def zdm:Option Out->Int->Bool
 |some ⟨.int .u8 n,[]⟩,m=>decide (n=m)
 |_,_=>false
theorem zeV{o:Option Out}{m:Int}(h:zdm o m=true):o=some ⟨.int .u8 m,[]⟩:=by
 unfold zdm at h;split at h
 ·rw[of_decide_eq_true h]
 ·cases h
theorem zh5:qi.all (fun l=>zdm (XE Tryz.prog zeX ziE 1 19 [.str l] []) (Zc l yH))=true:=by kernel_rfl
theorem zes:SoundC Tryz.prog GP4 zdU:=by
 intro args h l r hd hs;have hd:WU args h=some l:=hd;unfold WU at hd;split at hd
 ·cases hd;obtain⟨hm,hs⟩:=zg (show chk (XI l qi) (some (Zc l yH))=some r from hs);cases hs;have hr:=zeV (wW.1 zh5 l (zd7 hm));exact qQ zgT ziE (fun g C hC=>by
   rcases xB.1 hC with hC|hC
   ·cases hC
   ·exact RunRow.sound (l:=[⟨19,[WZ],[],[]⟩]) (wT.2 ⟨wT.2 ⟨zeu,fun _ h=>by cases h⟩,fun _ h=>by cases h⟩) g C hC) 1 19 [.str l] [] ([.str l],[]) _ rfl hr
 ·cases hd
end Go.Proofs.C06
end
section
set_option maxHeartbeats 4000000
set_option maxRecDepth 100000
namespace Go.Proofs.C06
open Go Go.RowKit Go.Vc Go.Am
theorem zdD(cap:Nat)(w:World):Calls Tryz.prog 30 #[.slice none 0 cap] w fun e w'=>e=.returned (.slice none 0 0)/\w'=w:=by
 have q22:∀(w:World)(a:Option Addr)(n c:Nat),(binOp .eql 22 (.slice a n c) (.slice none 0 0)).run Tryz.prog w=.ok (.bool a.isNone) w:=fun w a n c=>Lib.run_eql_slice_nil w 22 5 a n c 0 0 (by kernel_rfl)
 go_enter Tryz.func30,Tryz.ntmps30
 go_wp2
 go_ret
 exact⟨rfl,rfl⟩
theorem Vr(a:Addr)(n c:Nat)(w:World)(v:Value)(w2:World)(hap:∀ty,(Builtin.append_ #[22,22] ty #[.slice (some ⟨w.heap.size,0,none⟩) 0 0,.slice (some a) n c]).run Tryz.prog (w.alloc (.cells #[] 5))=.ok v w2):Calls Tryz.prog 30 #[.slice (some a) n c] w fun e w'=>e=.returned v/\w'=w2:=by
 have q22:∀(w:World)(a:Option Addr)(n c:Nat),(binOp .eql 22 (.slice a n c) (.slice none 0 0)).run Tryz.prog w=.ok (.bool a.isNone) w:=fun w a n c=>Lib.run_eql_slice_nil w 22 5 a n c 0 0 (by kernel_rfl)
 go_enter Tryz.func30,Tryz.ntmps30
 go_wp2_with (at_builtin;refine Lib.wpList_append_run _ rfl _ _ _ _ rfl _ _ rfl rfl _ _ (hap _) ?_)
 all_goals (go_ret;exact⟨rfl,rfl⟩)
def d1b(a:List AV)(h:Heap):Option mQ:=match a with
 |[v]=>yz h (un v)
 |_=>none
theorem zjD{args:List AV}{h:Heap}{l:mQ}(e:d1b args h=some l){R:Ro}{G:List Res}{w:World}{vs:List Value}(W:WRel R G h w)(hr:RelL (Am.look G h) R args vs):
  ∃p c,vs=[.slice p l.length c]/\l.length<=c/\Lib.BytesIn w p l.length (ZK l):=by
 unfold d1b at e;split at e
 ·obtain⟨u,us,rfl,r1,rfl⟩:=hr;obtain⟨p,c,rfl,g1,g2⟩:=za3 W e (qC r1);exact⟨p,c,rfl,g1,g2⟩
 ·cases e
def VB:Con:=zfY 30 d1b (fun l=>chk (Nat.ble l.length 1000000000000) (some (.bytes 5 l))) (fun i=>.rw i)
theorem zdR{w:World}{ob:Obj}{a:Addr}{v:Value}(h:w.cell? a=some v):(w.alloc ob).cell? a=some v:=by
 have hb:a.block<w.heap.size:=by
  rcases Nat.lt_or_ge a.block w.heap.size with h'|h'
  ·exact h'
  ·exfalso;unfold World.cell? at h;rw[Array.getElem?_eq_none h']at h;cases h
 have e:(w.alloc ob).heap[a.block]? =w.heap[a.block]? :=by show(w.heap.push ob)[a.block]? =w.heap[a.block]?;rw[Array.getElem?_push,if_neg (by omega)]
 unfold World.cell? at h⊢;rw[e];exact h
theorem za6:SoundC Tryz.prog GP4 VB:=YA (ji (by kernel_rfl)) fun args h l ao R G w vs hd hs hG W hr=>by
 obtain⟨hc,hs⟩:=zg hs;cases hs;have hc:=wS hc;obtain⟨p,cap,rfl,hcap,hb⟩:=zjD hd W hr;have hp:∀(w:World)(ob:Obj),(w.alloc ob).heap[w.heap.size]? =some ob:=fun w ob=>by show(w.heap.push ob)[w.heap.size]? =some ob;rw[Array.getElem?_push_size]
 obtain⟨i0,hi,e1,e2,e3⟩:=zg1;by_cases h0:0<l.length
 ·obtain⟨b,o,rfl,hcell⟩:=hb h0;have hap:∀ty,(Builtin.append_ #[22,22] ty #[.slice (some ⟨w.heap.size,0,none⟩) 0 0,.slice (some ⟨b,o,none⟩) l.length cap]).run Tryz.prog (w.alloc (.cells #[] 5))=_:=fun ty=>
   run_append_grow (P:=Tryz.prog) (w.alloc (.cells #[] 5)) 22 ty 5 i0 (.int .u8 0) (by kernel_rfl) hi e3 ⟨w.heap.size,0,none⟩ 0 0 [] (by simp) (by intro j v hj;simp at hj) ⟨b,o,none⟩ l.length cap (l.map u8V) (by rw[xF,e1,xM])
    (fun j v hj=>by
     have hjl:j<l.length:=by have:=(wM.1 hj).1;simpa using this
     rw[js];have h1:=zdR (ob:=.cells #[] 5) (hcell j hjl);have h2:(ZK l).getD j 0=(l[j].toNat:Int):=by rw[wU];unfold ZK;rw[xJ,wO hjl];rfl
     rw[h1,h2];rw[xJ,wO hjl]at hj;exact hj)
    (by omega) (by omega) (growslice_fits (by omega) (by rw[e2];omega))
  have hsz:(w.alloc (.cells #[] 5)).heap.size=w.heap.size+1:=by show(w.heap.push _).size=_;rw[Array.size_push]
  have hge:=grownCap_ge (w.alloc (.cells #[] 5)) (0+l.length) 0 5;refine(Vr ⟨b,o,none⟩ l.length cap w _ _ hap).mono fun e' w' ⟨he,hw⟩=>?_
  generalize grownCap (w.alloc (.cells #[] 5)) (0+l.length) 0 5=C at he hw hge;rw[hsz,mD]at he;refine⟨_,⟨w.heap.size+1,false,C,[w.heap.size+1]⟩,he,?_,by simp,fun L'=>?_,fun L' hL=>⟨_,hL,(fun h=>by cases h),fun _=>rfl⟩⟩
  ·rw[hw];exact Keeps.of_below ((((Below.refl _ _).alloc (wP _) _).drew).alloc (by show w.heap.size<=(w.alloc (.cells #[] 5)).heap.size;rw[hsz];omega) _)
  ·rw[hw];refine .inr ⟨rfl,rfl,(by show l.length<=C;omega),l.map u8V,List.replicate (C-l.length) (.int .u8 0),(0,0),?_,rfl,by simp,by simp;omega,wP _,fun j _ hj=>by omega⟩;have h3:=hp (w.alloc (.cells #[] 5)).drew (.cells (([]:List Value).toArray++(l.map u8V).toArray++Builtin.zeroCells (Value.int .u8 0).cells (C-(0+l.length))) 5);rw[show(w.alloc (.cells #[] 5)).drew.heap.size=w.heap.size+1 from hsz]at h3;refine h3.trans ?_;rw[VK,mD];have e:([]:List Value).toArray++(l.map u8V).toArray++(List.replicate (C-l.length) (Value.int .u8 0)).toArray=(l.map u8V++List.replicate (C-l.length) (Value.int .u8 0)).toArray:=by apply xS;simp
   rw[e]
 ·have hl:l=[]:=xG.1 (by omega);subst hl;cases p with
  |none=>refine(zdD cap w).mono fun e' w' ⟨he,hw⟩=>⟨_,⟨0,true,0,[]⟩,he,by rw[hw];exact Keeps.refl _ _,by simp,fun L'=>.inl ⟨rfl,rfl,rfl,rfl⟩,fun L' hL=>⟨_,hL,fun _=>⟨rfl,rfl⟩,fun h=>by cases h⟩⟩
  |some a=>
   refine(Vr a 0 cap w (.slice (some ⟨w.heap.size,0,none⟩) 0 0) (w.alloc (.cells #[] 5)) fun ty=>?_).mono fun e' w' ⟨he,hw⟩=>⟨_,⟨w.heap.size,false,0,[w.heap.size]⟩,he,?_,by simp,fun L'=>?_,fun L' hL=>⟨_,hL,(fun h=>by cases h),fun _=>rfl⟩⟩
   ·have h1:=run_append_room (P:=Tryz.prog) (w:=w.alloc (.cells #[] 5)) 22 ty 5 i0 (by kernel_rfl) hi w.heap.size 0 0 #[] (hp _ _) a 0 cap [] (by simp) (by intro j u hj;simp at hj) (by intro u hu;cases hu) (by omega) (by simp);rw[h1];congr 1;have e:(List.take (0*i0.size) (#[]:Array Value).toList++[]++List.drop (0*i0.size+([]:List Value).length) (#[]:Array Value).toList).toArray= #[]:=by simp
    rw[e];exact setRow_self _ _ _ _ _ (hp w (.cells #[] 5))
   ·rw[hw];exact Keeps.of_below ((Below.refl _ _).alloc (wP _) _)
   ·rw[hw];exact .inr ⟨rfl,rfl,wP _,[],[],(0,0),hp _ _,rfl,rfl,by simp,wP _,fun j _ hj=>by omega⟩
end Go.Proofs.C06
end
