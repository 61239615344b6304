/-
  A part of the proof of the laws.
-/
import Derived.Test.YtipihkebbdpmbaaGreatDoorIn
import Derived.Test.YtipihkebbdpmbaaGreatDoorSh
import Derived.Test.YtipihkebbdpmbaaGreatDoorShelf
import Derived.Shelf.Spec.SlicesGrow
import Derived.Lib.LazyBuf
section
set_option maxHeartbeats 4000000
set_option maxRecDepth 100000
namespace Go.Proofs.C06
open Go Go.RowKit Go.Vc Go.Am
def GP4(R:Ro):Prop:=GP3 R∧∃T fr,R 6=some (.cells (Lib.asciiSpaceTab.map fun z=>Value.int .u8 z).toArray T fr)
theorem zFQ:Bas Tryz.prog GP4 gl3:=⟨mixed,fun _ h=>zFc.hgl _ h.1,fun R R' hs h=>⟨zFc.hst R R' hs h.1,by obtain⟨T,fr,e⟩:=h.2;exact⟨T,fr,hs _ _ e⟩⟩⟩
theorem qT{C:Con}(h:SoundC Tryz.prog GP3 C):SoundC Tryz.prog GP4 C:=fun args hh x r hd hs=>
 let⟨h1,h2⟩:=h args hh x r hd hs
 ⟨h1,fun R G w vs hG W hargs=>h2 R G w vs hG.1 W hargs⟩
def d1s(a:List AV)(_:Heap):Option (List UInt8):=match a with
 |[.str l]=>some l
 |_=>none
theorem zE5{a:List AV}{h:Heap}{l:List UInt8}(e:d1s a h=some l):a=[.str l]:=by
 unfold d1s at e;split at e
 ·cases e;rfl
 ·cases e
def fields_con:Con:=zCV 186 d1s (fun l=>chk (l.all (fun b=>Nat.blt b.toNat 128)&&Nat.blt l.length 4294967281) (some (.strs 9 (Lib.fields l)))) (fun i=>.rwf i)
theorem zl9:SoundC Tryz.prog GP4 fields_con:=zha (jM (by kernel_rfl)) fun args h l ao R G w vs hd hs hG W hr=>by
 have e:=zE5 hd;subst e;obtain⟨hc,hs⟩:=zy hs;cases hs;rw[Bool.and_eq_true]at hc;obtain⟨u,us,rfl,hu,hus⟩:=hr;have hus:us=[]:=hus;have hu:u=.string (bs l):=hu;subst hus hu;obtain⟨T,fr,hR⟩:=hG.2;have hw:=W.ro _ _ hR;have htab:Lib.TabIs Tryz.prog w "strings.asciiSpace" .u8 Lib.asciiSpaceTab:=by unfold Lib.TabIs World.var?;rw[show Tryz.prog.globalNamed "strings.asciiSpace" =some 6 from by kernel_rfl];simp[hw]
 have hbs:(bs l).data.toList=l:=by simp[bs]
 have hsz:(bs l).size=l.length:=by simp[bs,ByteArray.size]
 refine(Tryz.strings_Fields (bs l) w (by rw[hsz];exact Nat.le_of_ble_eq_true hc.2) (fun j b hj=>?_) htab).mono fun e w' ⟨he,hw'⟩=>?_
 ·rw[hbs]at hj;exact Nat.le_of_ble_eq_true (List.all_eq_true.1 hc.1 b (List.mem_of_getElem? hj))
 ·rw[hbs]at he hw';refine⟨_,⟨w.heap.size,false,(Lib.fields l).length,[w.heap.size]⟩,he,by rw[hw'];exact Keeps.of_below ((Below.refl _ _).alloc (Nat.le_refl _) _),by simp,fun L'=>?_,fun L' hL=>?_⟩
  ·rw[hw'];refine .inr ⟨rfl,rfl,Nat.le_refl _,(Lib.fields l).map (fun l=>Value.string (bs l)),[],(0,0),?_,rfl,by simp,by simp,Nat.le_refl _,fun j _ hj=>by omega⟩;have hp:∀ob:Obj,(w.alloc ob).heap[w.heap.size]? =some ob:=fun ob=>by show(w.heap.push ob)[w.heap.size]? =some ob;rw[Array.getElem?_push_size]
   rw[hp,List.append_nil];rfl
  ·exact⟨_,hL,rfl,rfl,rfl⟩
end Go.Proofs.C06
end
section
set_option maxRecDepth 100000
set_option maxHeartbeats 4000000
namespace Go.Proofs.C06
open Go Go.RowKit Go.Vc Go.Am
def zD0:List (List UInt8×Int):=[([65,67,67,69,83,83],1),([65,68,86,65,78,67,73,78,71],1),([65,70,84,69,82],1),([65,76,76],1),([65,76,80,72,65,66,69,84,73,67],1),([65,76,83,79],1),([65,76,84,69,82,78,65,84,69],1),([65,78,68],1),([65,78,89],1),([65,82,69],1),([65,82,69,65],1),([65,82,69,65,83],1),([65,83,67,69,78,68,73,78,71],1),([65,83,83,73,71,78],1),([65,84],1),([65,87,65,89,45,70,82,79,77,45,90,69,82,79],1),([66,69,70,79,82,69],1),([66,73,78,65,82,89],1),([66,76,65,78,75],1),([66,76,79,67,75],1),([66,89],1),([67,70],1),([67,72],1),([67,72,65,82,65,67,84,69,82],1),([67,72,65,82,65,67,84,69,82,83],1),([67,76,65,83,83],1),([67,79,76,85,77,78],1),([67,79,77,80],1),([67,79,77,80,45,51],1),([67,79,77,80,85,84,65,84,73,79,78,65,76],1),([67,79,77,80,85,84,65,84,73,79,78,65,76,45,51],1),([67,79,78,70,73,71,85,82,65,84,73,79,78],1),([67,79,78,84,65,73,78,83],1),([67,79,78,84,69,78,84],1),([67,79,78,84,82,79,76],1),([67,79,78,84,82,79,76,83],1),([67,79,78,86,69,82,84,73,78,71],1),([67,79,80,89],1),([67,79,82,82],1),([67,79,82,82,69,83,80,79,78,68,73,78,71],1)]
def zDZ:List (List UInt8×Int):=[([67,79,85,78,84],1),([68,65,84,65],1),([68,69],1),([68,69,67,76,65,82,65,84,73,86,69,83],1),([68,69,76,73,77,73,84,69,68],1),([68,69,76,73,77,73,84,69,82],1),([68,69,80,69,78,68,73,78,71],1),([68,69,83,67,69,78,68,73,78,71],1),([68,69,84,65,73,76],1),([68,73,86,73,83,73,79,78],1),([68,79,87,78],1),([68,85,80,76,73,67,65,84,69,83],1),([68,89,78,65,77,73,67],1),([69,76,83,69],1),([69,78,68],1),([69,78,68,45,65,68,68],1),([69,78,68,45,67,65,76,76],1),([69,78,68,45,67,79,77,80,85,84,69],1),([69,78,68,45,68,69,76,69,84,69],1),([69,78,68,45,68,73,86,73,68,69],1),([69,78,68,45,69,86,65,76,85,65,84,69],1),([69,78,68,45,73,70],1),([69,78,68,45,77,85,76,84,73,80,76,89],1),([69,78,68,45,80,69,82,70,79,82,77],1),([69,78,68,45,82,69,65,68],1),([69,78,68,45,82,69,84,85,82,78],1),([69,78,68,45,82,69,87,82,73,84,69],1),([69,78,68,45,83,69,65,82,67,72],1),([69,78,68,45,83,84,65,82,84],1),([69,78,68,45,83,84,82,73,78,71],1),([69,78,68,45,83,85,66,84,82,65,67,84],1),([69,78,68,45,85,78,83,84,82,73,78,71],1),([69,78,68,45,87,82,73,84,69],1),([69,78,86,73,82,79,78,77,69,78,84],1),([69,81,85,65,76],1),([69,82,82,79,82],1),([69,88,67,69,80,84,73,79,78],1),([69,88,84,69,78,68],1),([70,65,76,83,69],1),([70,68],1)]
def zDY:List (List UInt8×Int):=[([70,73,76,69],1),([70,73,76,69,45,67,79,78,84,82,79,76],1),([70,73,76,76,69,82],1),([70,73,78,65,76],1),([70,73,82,83,84],1),([70,79,79,84,73,78,71],1),([70,79,82],1),([70,82,79,77],1),([71,73,86,73,78,71],1),([71,82,69,65,84,69,82],1),([71,82,79,85,80],1),([72,69,65,68,73,78,71],1),([73,45,79],1),([73,45,79,45,67,79,78,84,82,79,76],1),([73,68,69,78,84,73,70,73,67,65,84,73,79,78],1),([73,78],1),([73,78,68,69,88,69,68],1),([73,78,68,73,67,65,84,69],1),([73,78,73,84,73,65,76],1),([73,78,80,85,84],1),([73,78,80,85,84,45,79,85,84,80,85,84],1),([73,78,84,79],1),([73,78,86,65,76,73,68],1),([73,83],1),([74,85,83,84],1),([74,85,83,84,73,70,73,69,68],1),([75,69,89],1),([76,65,66,69,76],1),([76,65,83,84],1),([76,69,65,68,73,78,71],1),([76,69,70,84],1),([76,69,83,83],1),([76,73,77,73,84],1),([76,73,77,73,84,83],1),([76,73,78,69],1),([76,73,78,69,83],1),([76,73,78,75,65,71,69],1),([77,79,68,69],1),([78,69,65,82,69,83,84,45,65,87,65,89,45,70,82,79,77,45,90,69,82,79],1),([78,69,65,82,69,83,84,45,69,86,69,78],1)]
def zDX:List (List UInt8×Int):=[([78,69,65,82,69,83,84,45,84,79,87,65,82,68,45,90,69,82,79],1),([78,69,71,65,84,73,86,69],1),([78,69,88,84],1),([78,79],1),([78,79,84],1),([78,85,77,66,69,82],1),([78,85,77,69,82,73,67],1),([79,67,67,85,82,83],1),([79,70],1),([79,70,70],1),([79,77,73,84,84,69,68],1),([79,78],1),([79,80,84,73,79,78,65,76],1),([79,82],1),([79,82,68,69,82],1),([79,82,71,65,78,73,90,65,84,73,79,78],1),([79,84,72,69,82],1),([79,85,84,80,85,84],1),([79,86,69,82,70,76,79,87],1),([80,65,67,75,69,68,45,68,69,67,73,77,65,76],1),([80,65,71,69],1),([80,70],1),([80,72],1),([80,73,67],1),([80,73,67,84,85,82,69],1),([80,76,85,83],1),([80,79,73,78,84,69,82],1),([80,79,83,73,84,73,86,69],1),([80,82,79,67,69,68,85,82,69],1),([80,82,79,67,69,69,68],1),([80,82,79,71,82,65,77],1),([80,82,79,71,82,65,77,45,73,68],1),([80,82,79,72,73,66,73,84,69,68],1),([82,65,78,68,79,77],1),([82,68],1),([82,69,67,79,82,68],1),([82,69,67,79,82,68,83],1),([82,69,68,69,70,73,78,69,83],1),([82,69,70,69,82,69,78,67,69],1),([82,69,76,65,84,73,86,69],1)]
def zDW:List (List UInt8×Int):=[([82,69,77,65,73,78,68,69,82],1),([82,69,78,65,77,69,83],1),([82,69,80,76,65,67,73,78,71],1),([82,69,80,79,82,84],1),([82,69,80,79,82,84,73,78,71],1),([82,69,80,79,82,84,83],1),([82,69,83,69,84],1),([82,70],1),([82,72],1),([82,73,71,72,84],1),([82,79,85,78,68,69,68],1),([82,85,78],1),([83,67,82,69,69,78],1),([83,68],1),([83,69,67,84,73,79,78],1),([83,69,76,69,67,84],1),([83,69,78,84,69,78,67,69],1),([83,69,80,65,82,65,84,69],1),([83,69,81,85,69,78,67,69],1),([83,69,81,85,69,78,84,73,65,76],1),([83,73,71,78],1),([83,73,90,69],1),([83,79,85,82,67,69],1),([83,84,65,78,68,65,82,68],1),([83,84,65,84,85,83],1),([83,85,77],1),([84,65,76,76,89,73,78,71],1),([84,69,83,84],1),([84,72,65,78],1),([84,72,69,78],1),([84,72,82,79,85,71,72],1),([84,72,82,85],1),([84,73,77,69,83],1),([84,79],1),([84,79,87,65,82,68,45,71,82,69,65,84,69,82],1),([84,79,87,65,82,68,45,76,69,83,83,69,82],1),([84,82,65,73,76,73,78,71],1),([84,82,85,69],1),([84,82,85,78,67,65,84,73,79,78],1),([84,89,80,69],1)]
def zDV:List (List UInt8×Int):=[([85,78,84,73,76],1),([85,80],1),([85,80,79,78],1),([85,83,65,71,69],1),([85,83,73,78,71],1),([86,65,76,85,69],1),([86,65,76,85,69,83],1),([86,65,82,89,73,78,71],1),([87,72,69,78],1),([87,73,84,72],1),([87,79,82,75,73,78,71,45,83,84,79,82,65,71,69],1),([65,67,67,69,80,84],2),([65,68,68],2),([65,76,84,69,82],2),([67,65,76,76],2),([67,65,78,67,69,76],2),([67,76,79,83,69],2),([67,79,77,80,85,84,69],2),([67,79,78,84,73,78,85,69],2),([68,69,76,69,84,69],2),([68,73,83,80,76,65,89],2),([68,73,86,73,68,69],2),([69,86,65,76,85,65,84,69],2),([69,88,73,84],2),([71,69,78,69,82,65,84,69],2),([71,79],2),([73,70],2),([73,78,73,84,73,65,76,73,90,69],2),([73,78,73,84,73,65,84,69],2),([73,78,83,80,69,67,84],2),([77,69,82,71,69],2),([77,79,86,69],2),([77,85,76,84,73,80,76,89],2),([79,80,69,78],2),([80,69,82,70,79,82,77],2),([82,69,65,68],2),([82,69,76,69,65,83,69],2),([82,69,84,85,82,78],2),([82,69,87,82,73,84,69],2),([83,69,65,82,67,72],2)]
def zDU:List (List UInt8×Int):=[([83,69,84],2),([83,79,82,84],2),([83,84,65,82,84],2),([83,84,79,80],2),([83,84,82,73,78,71],2),([83,85,66,84,82,65,67,84],2),([83,85,80,80,82,69,83,83],2),([84,69,82,77,73,78,65,84,69],2),([85,78,83,84,82,73,78,71],2),([85,83,69],2),([87,82,73,84,69],2),([90,69,82,79],3),([90,69,82,79,83],3),([90,69,82,79,69,83],3),([83,80,65,67,69],3),([83,80,65,67,69,83],3),([72,73,71,72,45,86,65,76,85,69],3),([72,73,71,72,45,86,65,76,85,69,83],3),([76,79,87,45,86,65,76,85,69],3),([76,79,87,45,86,65,76,85,69,83],3),([81,85,79,84,69],3),([81,85,79,84,69,83],3)]
def zjV:List (List UInt8×Int):=zD0++(zDZ++(zDY++(zDX++(zDW++(zDV++(zDU))))))
def eqW:List UInt8→List UInt8→Bool
 |[],[]=>true
 |a::r,b::s=>cond (Nat.beq a.toNat b.toNat) (eqW r s) false
 |_,_=>false
def zsG(l:List UInt8):List (List UInt8×Int)→Int
 |[]=>0
 |(w,n)::r=>cond (eqW l w) n (zsG l r)
end Go.Proofs.C06
end
section
set_option maxHeartbeats 40000000
set_option maxRecDepth 100000
namespace Go.Proofs.C06
open Go Go.RowKit Go.Vc Go.Am
theorem zzj:Bas Tryz.prog GP4 zt2:=⟨mixed,fun R h=>zFR.hgl R h.1,zFQ.hst⟩
def zFp:List (AV×AV):=zjV.map fun x=>(.str x.1,.int .u8 x.2)
def zwf:RunW:=RunRow.runW [⟨135,[fields_con],[],[]⟩] [] (fun _=>false) 4000 (by kernel_rfl) (by kernel_rfl) [] (by kernel_rfl)
theorem zzC:zeh Tryz.prog zt2 zwf 1 135 [] []=some ⟨.map 0,[some (.mp zFp)]⟩:=by kernel_rfl
theorem zuT:∀C∈[fields_con],SoundC Tryz.prog GP4 C:=List.forall_mem_cons.2 ⟨zl9,fun _ h=>by cases h⟩
def zke:Con:=zCV 135 (fun a _=>match a with
 |[]=>some ()
 |_=>none) (fun _=>some (.mp zFp)) .map
theorem ztk:SoundC Tryz.prog GP4 zke:=ztQ (JI zzj zwf (fun g C hC=>by
 rcases List.mem_append.1 hC with hC|hC
 ·cases hC
 ·exact RunRow.sound (l:=[⟨135,[fields_con],[],[]⟩]) (List.forall_mem_cons.2 ⟨zuT,fun _ h=>by cases h⟩) g C hC) 1 135) (by kernel_rfl) zzC
def zlw:List (List UInt8):=[[84],[78],[65],[66],[67],[68],[69],[70],[88],[89],[90],[80],[73],[83],[87],[75],[90,69,82,79],[90,69,82,79,83],[83,80,65,67,69],[83,80,65,67,69,83],[67,72,65,82,65,67,84,69,82,83],[70,73,82,83,84],[65,76,76],[76,69,65,68,73,78,71],[83,73,90,69],[68,69,76,73,77,73,84,69,68],[73,78,84,79],[79,82],[67,79,85,78,84],[80,79,73,78,84,69,82],[84,65,76,76,89,73,78,71],[82,69,80,76,65,67,73,78,71],[85,78,83,84,82,73,78,71],[83,84,82,73,78,71],[79,86,69,82,70,76,79,87],[68,69,76,73,77,73,84,69,82],[66,89],[66,69,70,79,82,69],[65,70,84,69,82],[73,78,73,84,73,65,76],[84,79],[73,78],[87,73,84,72],[81,85,79,84,69]]
theorem zyH:∀(a b:List UInt8),eqW a b=true→a=b
 |[],[],_=>rfl
 |a::r,b::s,h=>by
  unfold eqW at h;cases hb:Nat.beq a.toNat b.toNat with
  |false=>rw[hb]at h;cases h
  |true=>rw[hb]at h;rw[UInt8.toNat_inj.1 (Nat.eq_of_beq_eq_true hb),zyH r s h]
 |[],_::_,h=>by cases h
 |_::_,[],h=>by cases h
def zyd(l:List UInt8):List (List UInt8)→Bool
 |[]=>false
 |w::r=>cond (eqW l w) true (zyd l r)
theorem zsE{l:List UInt8}:∀{ws:List (List UInt8)},zyd l ws=true→l∈ws
 |[],h=>by cases h
 |w::r,h=>by
  unfold zyd at h;cases hb:eqW l w with
  |true=>rw[zyH _ _ hb];exact List.mem_cons_self
  |false=>rw[hb]at h;exact List.mem_cons_of_mem _ (zsE h)
def zjZ(a:List AV)(h:Heap):Option (List UInt8):=match a,h with
 |[.str l],[]=>some l
 |_,_=>none
def zrs:Con:=Con6.c ⟨85,List UInt8,Int,zjZ,fun l=>chk (zyd l zlw) (some (zsG l zjV)),fun _ n=>⟨.int .u8 n,[]⟩⟩
def zDJ:RunW:=RunRow.runW [⟨85,[zke],[],[]⟩] [] (fun _=>false) 4000 (by kernel_rfl) (by kernel_rfl) [] (by kernel_rfl)
def zqx:Option Out→Int→Bool
 |some ⟨.int .u8 n,[]⟩,m=>decide (n=m)
 |_,_=>false
theorem ztW{o:Option Out}{m:Int}(h:zqx o m=true):o=some ⟨.int .u8 m,[]⟩:=by
 unfold zqx at h;split at h
 ·rw[of_decide_eq_true h]
 ·cases h
theorem zCQ:zlw.all (fun l=>zqx (zeh Tryz.prog zt2 zDJ 1 85 [.str l] []) (zsG l zjV))=true:=by kernel_rfl
theorem zta:SoundC Tryz.prog GP4 zrs:=by
 intro args h l r hd hs;have hd:zjZ args h=some l:=hd;unfold zjZ at hd;split at hd
 ·cases hd;obtain⟨hm,hs⟩:=zy (show chk (zyd l zlw) (some (zsG l zjV))=some r from hs);cases hs;have hr:=ztW (List.all_eq_true.1 zCQ l (zsE hm));exact JI zzj zDJ (fun g C hC=>by
   rcases List.mem_append.1 hC with hC|hC
   ·cases hC
   ·exact RunRow.sound (l:=[⟨85,[zke],[],[]⟩]) (List.forall_mem_cons.2 ⟨List.forall_mem_cons.2 ⟨ztk,fun _ h=>by cases h⟩,fun _ h=>by cases h⟩) g C hC) 1 85 [.str l] [] ([.str l],[]) _ rfl hr
 ·cases hd
end Go.Proofs.C06
end
