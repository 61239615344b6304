/-
  A part of the proof of the laws.
-/
import Derived.Test.YtodebhabandljaaGreatDoorAmB
import Derived.Test.YtodebhabandljaaGreatDoorAm26
import Derived.Lib.MakeNoZero
import Derived.Laws.CopyRow
import Derived.WalkKit
import Derived.Deep.LoopGhost
import Derived.Deep.DeepCutAuto
import Derived.Deep.DeepFit
import Derived.Deep.CutBlock
import Derived.Shelf.Bits.Mul64
import Derived.Deep.MidRow
import Derived.Shelf.RegionOpenPlain
section
set_option maxHeartbeats 4000000
set_option maxRecDepth 100000
namespace Go.Proofs.C06
open Go Go.RowKit Go.Vc Go.Am
def Z8(v:AV):Bool:=match v with
 |.str _=>true
 |_=>false
def yT(v:AV):Bool:=match v with
 |.bool _=>true
 |_=>false
def gl2:Glob:=(5,.agg [.int .u8 66,.int .u8 32,.int .u8 48,.int .u8 48,.int .u8 47,.int .u8 47,.int .u8 44,.int .u8 44,.int .u8 46,.int .u8 46,.int .u8 36,.int .u8 36])::gl
def GP2(R:Ro):Prop:=GP R/\GlobOK gl2 R
theorem zBZ:Bas Tryz.prog GP2 gl2:=⟨mixed,fun _ h=>h.2,fun R R' y h=>⟨zq6 R R' y h.1,fun g=>zj y _ _ (fun i j=>by rw[Ja]at j;cases j) (h.2 g)⟩⟩
theorem up2{C:Con}(h:SoundC Tryz.prog GP C):SoundC Tryz.prog GP2 C:=fun y hh x r B H=>
 let⟨h1,h2⟩:=h y hh x r B H
 ⟨h1,fun R G w vs I W j=>h2 R G w vs I.1 W j⟩
end Go.Proofs.C06
end
section
set_option maxHeartbeats 4000000
set_option maxRecDepth 100000
namespace Go.Proofs.C06
open Go Go.RowKit Go.Vc Go.Am
def gl3:Glob:=gl2
def GP3(R:Ro):Prop:=GP2 R/\GlobOK gl3 R
theorem zyY:Bas Tryz.prog GP3 gl3:=⟨mixed,fun _ h=>h.2,fun R R' y h=>⟨zBZ.hst R R' y h.1,fun g=>zj y _ _ (fun i j=>by rw[Ja]at j;cases j) (h.2 g)⟩⟩
theorem zBQ{R:Ro}(h:GP2 R):GP3 R:=⟨h,h.2⟩
theorem zfm{k:Nat}{v:AV}{g:Nat}(h:Nat.beq k g=false):∀gl:Glob,jW (gl++[(k,v)]) g=jW gl g
 |[]=>by show(match Nat.beq k g with|true=>AV.rp v|false=>jW [] g)=_;rw[h]
 |(a,u)::r=>by
  show(match Nat.beq a g with|true=>AV.rp u|false=>jW (r++[(k,v)]) g)=(match Nat.beq a g with|true=>AV.rp u|false=>jW r g)
  rw[zfm h r]
theorem KL{k:Nat}{v:AV}(g:Nat):∀gl:Glob,gl.any (fun e=>Nat.beq e.1 k)=true->jW (gl++[(k,v)]) g=jW gl g
 |[],h=>by cases h
 |(a,u)::r,h=>by
  show(match Nat.beq a g with|true=>AV.rp u|false=>jW (r++[(k,v)]) g)=(match Nat.beq a g with|true=>AV.rp u|false=>jW r g)
  cases hb:Nat.beq a g with
  |true=>rfl
  |false=>
   show jW (r++[(k,v)]) g=jW r g;rw[List.any_cons,nW]at h;rcases h with h|h
   ·have e:=kV h;exact zfm (by rw[<-e];exact hb) r
   ·exact KL g r h
def zqf:Glob:=gl3++[(5,.undef)]
theorem zBx:Bas Tryz.prog GP3 zqf:=⟨mixed,fun _ h g=>by rw[show zqf=gl3++[(5,.undef)]from rfl,KL g gl3 (by decide)];exact h.2 g,fun R R' j h=>zyY.hst R R' j h⟩
theorem zBD{C:Con}(h:SoundC Tryz.prog GP2 C):SoundC Tryz.prog GP3 C:=fun y hh x r B H=>
 let⟨h1,h2⟩:=h y hh x r B H
 ⟨h1,fun R G w vs I W j=>h2 R G w vs I.1 W j⟩
theorem up3{C:Con}(h:SoundC Tryz.prog GP C):SoundC Tryz.prog GP3 C:=zBD (up2 h)
end Go.Proofs.C06
end
section
set_option maxHeartbeats 4000000
set_option maxRecDepth 100000
namespace Go.Proofs.C06
open Go Go.RowKit Go.Vc Go.Am
def BR(n:Nat)(v:Value)(w:World)(e:Ending)(w':World):Prop:=∃g cs,e=.returned (.slice (some ⟨g,0,none⟩) n n)/\Keeps [] w w'/\w.heap.size<=g/\w'.heap[g]? =some (.cells cs 5 (0,0))/\∃tl,cs.toList=List.replicate n v++tl
theorem zyU(p:Addr)(cap:Nat)(v:Value)(w:World):Calls Tryz.prog 93 #[.slice (some p) 1 cap,.int .i64 0] w (BR 0 v w):=by
 have mixed:=Tryz.checked.mixed
 go_enter Tryz.func93,Tryz.ntmps93
 go_wp2
 go_ret
 exact⟨w.heap.size,#[],rfl,Keeps.of_below ((Below.refl _ w).alloc (mA _) _),mA _,heap_alloc_new w _,[],rfl⟩
def BrRow(w:World)(g n q:Nat)(v:Value)(W:World):Prop:=Keeps [] w W/\w.heap.size<=g/\∃cs,W.heap[g]? =some (.cells cs 5 (0,0))/\n<=cs.size/\∃tl,cs.toList=List.replicate q v++tl
theorem WU{w W:World}{g:Nat}{cs:Array Value}(h:Keeps [] w W)(y:w.heap.size<=g):Keeps [] w (W.setRow g cs):=by
 refine⟨h.os,h.tape,h.output,?_,fun k hk j=>?_⟩
 ·refine uAG h.size ?_;simp[World.setRow]
 ·rw[<-h.block k hk j];simp only[World.setRow];rw[uAi,if_neg (by omega)]
theorem ztk{v:Value}{q:Nat}{tl:List Value}{cs:Array Value}(h:cs.toList=List.replicate q v++tl){i:Nat}(j:i<q):cs[i]? =some v:=by rw[<-uAM,h,mN (by simpa using j)];simp[j]
theorem BrRow.copy{w W:World}{g n q k:Nat}{v:Value}(h:BrRow w g n q v W)(hv:v.oneCell'=true)(hk:k<=q)(hq:q<=n)(B y:Nat):
  ∃W',(Builtin.copy_ #[22,22] 3 #[.slice (some ⟨g,q,none⟩) (n-q) B,.slice (some ⟨g,0,none⟩) k y]).run Tryz.prog W=.ok (.int .i64 ((k.min (n-q):Nat):Int)) W'/\BrRow w g n (q+k.min (n-q)) v W':=by
 obtain⟨h1,U,cs,J,h4,tl,I⟩:=h;obtain⟨r,H⟩:∃r,k.min (n-q)=r:=⟨_,rfl⟩
 have hrk:r<=k:=H▸Nat.min_le_left _ _;have hrn:r<=n-q:=H▸Nat.min_le_right _ _;rw[H];have hl:cs.size=q+tl.length:=by rw[<-Array.length_toList,I];simp
 refine⟨_,by
  have:=run_copy_row (P:=Tryz.prog) W 22 22 3 5 g q (n-q) B ⟨g,0,none⟩ k y cs 5 (List.replicate r v) (by kernel_rfl) (by kernel_rfl) J (by rw[nV,H])
   (fun j u Z=>by obtain⟨O,rfl⟩:=kX.1 Z;simp only[nV]at O;rw[Yo,uAr];simp only[World.cell?,J];rw[ztk I (by omega)];simp) (by simp only[nV];omega) (fun u hu=>by rw[List.eq_of_mem_replicate hu];exact hv)
  rw[nV]at this;exact this,WU h1 U,U,_,setRow_heap W g cs _ _ _ J,?_,tl.drop r,?_⟩
 ·simp only[List.size_toArray,kW,mH,nV,mL,Array.length_toList];omega
 ·rw[List.toList_toArray,I,uAt (by simp),nX (by simp),List.drop_append,nV,Nat.add_sub_cancel_left,nS (by simp),nJ,List.replicate_append_replicate]
theorem BrRow.drew{w W:World}{g n q:Nat}{v:Value}(h:BrRow w g n q v W):BrRow w g n q v W.drew:=
 ⟨h.1.trans (Keeps.drawn W _),h.2.1,h.2.2⟩
theorem zcf{p:Addr}{v:Value}(w:World)(o:Obj)(h:w.cell? p=some v):(w.alloc o).drew.drew.cell? p=some v:=by show(w.alloc o).cell? p=some v;rw[World.cell?_alloc_lt _ _ _ (World.block_lt_of_cell? _ _ (by rw[h]))];exact h
theorem zyV(p:Addr)(cap c n:Nat)(w:World)(Z:w.cell? p=some (.int .u8 c))(hn1:1<=n)(hn:n<=140737488355328)
  (O:∀w:World,Calls Tryz.prog 112 #[.int .u64 1,.int .u64 n] w fun e w'=>e=.returned (.tuple #[.int .u64 0,.int .u64 n])/\w'=w):
  Calls Tryz.prog 93 #[.slice (some p) 1 cap,.int .i64 n] w (BR n (.int .u8 c) w):=by
 have mixed:=Tryz.checked.mixed;have eM:∀I w,(callFunc 112 I).run Tryz.prog w=.ok (.enter 112 I) w:=jk (by kernel_rfl);have t22:Tryz.prog.underlying 22=some (.slice 5):=by kernel_rfl
 obtain⟨cs,J,hle,hmax⟩:=Lib.run_makeNoZero (P:=Tryz.prog) w #[3] 22 5 t22 n (by omega);have U:(callFunc 145 #[.int .i64 n]).run Tryz.prog w=.ok (.value (.slice (some ⟨w.heap.size,0,none⟩) n cs.size)) (w.drew.drew.alloc (.cells cs 5)):=by rw[run_callFunc_extern Tryz.func145 (by kernel_rfl) (by kernel_rfl) (by kernel_rfl) (e:=Extern.BytealgMakeNoZero.makeNoZero #[3] #[22]) (by kernel_rfl),J];rfl
 have hw1:IntKind.u64.wrap (1:Int)=1:=by decide
 have hw2:IntKind.u64.wrap (n:Int)=n:=by rw[IntKind.wrap_u64];omega
 have hw3:IntKind.i64.wrap (n:Int)=n:=by rw[IntKind.wrap_i64];omega
 have hM:=O w;have hA:Aside (n<=cs.size):=hle;clear J hle hmax O
 go_enter Tryz.func93,Tryz.ntmps93
 go_upto_if 42 with(go_at_fn 112;go_fit hM;rintro e w' ⟨rfl,hw⟩;rw[hw])
 go_cut [8] (fun s8 wx=>w=wx/\∃m:Nat,1<=m/\s8=.int .i64 m)
 case first=>
  go_wp2
  all_goals go_meet
  all_goals first|exact⟨rfl,8192,by decide,rfl⟩|exact⟨rfl,n,hn1,rfl⟩
 case rest=>
  obtain⟨rfl,m,hm,rfl⟩:=hcut;have hg:(w.alloc (.cells cs 5)).drew.drew.heap[w.heap.size]? =some (.cells cs 5 (0,0)):=heap_alloc_new w _;have H:=run_copy_row (P:=Tryz.prog) (w.alloc (.cells cs 5)).drew.drew 22 22 3 5 w.heap.size 0 n n p 1 cap cs 5 [.int .u8 c] t22 (by kernel_rfl) hg
   (by simp only[mF];exact (uAR hn1).symm) (fun j v hj=>by
    cases j with
    |zero=>
     cases hj;have e:p.add 0=p:=by unfold Addr.add;split<;>simp_all
     rw[e];exact (zcf w _ Z)
    |succ j=>cases hj) (by simp only[mF];have:=hA.out;omega) (fun u hu=>by rw[mD.1 hu];rfl)
  have y:BrRow w w.heap.size n 1 (.int .u8 c) ((w.alloc (.cells cs 5)).drew.drew.setRow w.heap.size (cs.toList.take 0++[Value.int .u8 c]++cs.toList.drop (0+[Value.int .u8 c].length)).toArray):=by
   refine⟨WU (Keeps.of_below (((Below.refl _ w).alloc (mA _) _).drew.drew)) (mA _),mA _,_,setRow_heap _ _ cs _ _ _ hg,?_,cs.toList.drop 1,?_⟩
   ·have:=hA.out;simp only[List.size_toArray,kW,mH,mL,mF,Array.length_toList];omega
   ·simp
  generalize (w.alloc (.cells cs 5)).drew.drew.setRow w.heap.size (cs.toList.take 0++[Value.int .u8 c]++cs.toList.drop (0+[Value.int .u8 c].length)).toArray=W1 at H y;clear hg;have hB:Aside (BrRow w w.heap.size n 1 (.int .u8 c) W1):=y;clear y
  go_wp2
  go_loopg [10,11] (n-1) (fun g s10 s11 wx=>∃q:Nat,1<=q/\q+g=n/\s10=.int .i64 q/\BrRow w w.heap.size n q (.int .u8 c) wx)
  case atStart=>exact⟨1,mA _,by omega,rfl,hB.out⟩
  case round=>
   obtain⟨q,hq1,hqg,rfl,hR⟩:=hrel;have hR':Aside (BrRow w w.heap.size n q (.int .u8 c) wr):=hR;clear hR hB H U hM;cases gk with
   |zero=>
    obtain rfl:q=n:=by omega
    go_wp2
    go_ret
    obtain⟨h1,h2,cs',h3,h4,tl,h5⟩:=hR'.out;exact⟨_,cs',rfl,h1,h2,h3,tl,h5⟩
   |succ g=>
    have hlt:(q:Int)<(n:Int):=by omega
    obtain⟨k,hk1,hkq,hmin,hmin2⟩:∃k:Nat,Aside (1<=k)/\Aside (k<=q)/\(∀(ts:Array TypeId)(t:TypeId)(W:World),(Builtin.min_ ts t #[.int .i64 (q:Int),.int .i64 (m:Int)]).run Tryz.prog W=.ok (.int .i64 (k:Int)) W)/\min (q:Int) (m:Int)=(k:Int):=by
     rcases Nat.lt_or_ge m q with h|h
     ·exact⟨m,hm,by show m<=q;omega,fun ts t W=>by simp[Builtin.min_,Builtin.min2,show(m:Int)<q by omega],by omega⟩
     ·exact⟨q,hq1,mA _,fun ts t W=>by simp[Builtin.min_,Builtin.min2,show¬(m:Int)<q by omega],by omega⟩
    obtain⟨W2,H,y⟩:=hR'.out.drew.copy (k:=k) rfl hkq.out (by omega) (n-q) n;have B:Aside (BrRow w w.heap.size n (q+k.min (n-q)) (.int .u8 c) W2):=y;have hr:Aside (1<=k.min (n-q)/\k.min (n-q)<=n-q):=⟨Nat.le_min.2 ⟨hk1.out,by omega⟩,Nat.min_le_right _ _⟩
    clear y;generalize k.min (n-q)=r at H B hr;have hwr:Aside (wrap64 ((q:Int)+(r:Int))=((q+r:Nat):Int)):=by have:=hr.out;show wrap64 _=_;unfold wrap64;omega
    have hkn:k<=n:=by have:=hkq.out;omega
    go_wp2
    go_region_o
    all_goals
     go_wp2
     have h1:=hr.out
     go_roundg (n-(q+r))
     case measure=>omega
     case rel=>exact⟨q+r,by omega,by omega,by rw[hwr.out],B.out⟩
def zAQ(l:uAS)(n:Int):Option uAS:=match l with
 |[c]=>chk (decide (0<=n)&&decide (n<=140737488355328)) (some (List.replicate n.toNat c))
 |_=>none
def zfU(_:Nat):Con:=mkC 93 (cv (lc (vb false) (la (vI .i64) [])) []) (ov_ (vb true) []:Od uAS) fun x=>zAQ x.1 x.2
theorem zfT(N:Nat):SoundC Tryz.prog GP (zfU N):=by
 intro J h x r hd hs;obtain⟨y,hh⟩:=(cv (ρ:=rE) (lc (vb false) (la (vI .i64) [])) []).ok J h x hd;have hh:h=[]:=hh;have y:J=[.rob false x.1,.int .i64 x.2]:=y;subst y hh;have hs:zAQ x.1 x.2=some r:=hs;obtain⟨l,n⟩:=x;unfold zAQ at hs;split at hs
 ·rename_i c hc;obtain⟨h1,h2⟩:=zm hs;obtain⟨h3,h4⟩:=KY h1;have h3:=ZE h3;have h4:=ZE h4;cases h2;obtain⟨k,rfl⟩:∃k:Nat,n=k:=⟨n.toNat,by simp only at h3;omega⟩
  refine⟨jk (by kernel_rfl),fun R G w vs hGP W Z=>?_⟩;obtain⟨u,us,rfl,hu,u2,us2,rfl,O,H⟩:=Z;have H:us2=[]:=H;have O:u2=.int .i64 (k:Int):=O;subst H O;obtain rfl:l=[c]:=hc;obtain⟨h5,_⟩|⟨b,off,cap,cs,T,fr,seg,tl,rfl,h5,h6,h7,h8,h9⟩:=hu
  ·cases(show(1:Nat)=0 from h5)
  have U:w.cell? ⟨b,off,none⟩=some (.int .u8 c.toNat):=by have h7:=W.ro b _ h7;simp only[World.cell?,h7];rw[<-uAM];have e:=congrArg (·[0]?) h8;simp only[mY,uAu]at e;rw[e,h9];rfl
  have hcall:Calls Tryz.prog 93 #[.slice (some ⟨b,off,none⟩) 1 cap,.int .i64 k] w (BR k (.int .u8 c.toNat) w):=by
   rcases Nat.eq_zero_or_pos k with h0|h0
   ·subst h0;exact zyU _ _ _ _
   ·exact zyV _ _ _ k w U h0 (by simp only at h4;omega) fun w0=>by have:=Tryz.bits_Mul 1 k (by decide) (by simp only at h4;omega) w0;rw[Nat.one_mul,Nat.div_eq_of_lt (by simp only at h4;omega),uAF (by simp only at h4;omega)]at this;exact this
  refine hcall.mono fun e w' ⟨g,I,he,hk,hg,hcs,tl',htl⟩=>?_
  let R2:Ro:=fun x=>if x=g then some (.cells I 5 (0,0))else R x
  have hRg:R g=none:=by
   rcases ho:R g with _|o
   ·rfl
   ·have:=zV (W.ro g o ho);omega
  have hR2:∀b o,R b=some o->R2 b=some o:=fun b o hb=>by show(if b=g then some (Obj.cells I 5 (0,0))else R b)=some o;rw[if_neg (fun e=>by subst e;rw[hRg]at hb;cases hb)];exact hb
  show∃V R' G',e=.returned V/\WRel R' G' [] w'/\Since ⟨R,Am.look G [],fpsAll G [],w,0⟩ R' G' [] w'/\Rel (Am.look G' []) R' (.rob true (List.replicate k c)) V;refine⟨_,R2,[],he,⟨rfl,fun i o q ho=>by simp[hget]at ho,fun i j ri rj _ hl=>by obtain⟨o,ho⟩:=hl;simp[hget]at ho,fun i q hl=>by obtain⟨o,ho⟩:=hl;simp[hget]at ho,fun x o B=>?_⟩,
   ⟨hk.mono (by simp),hR2,fun x B=>?_,fun i q b hl=>by obtain⟨o,ho⟩:=hl;simp[hget]at ho,fun i hi=>by simp at hi,mA _⟩,?_⟩
  ·replace B:(if x=g then some (Obj.cells I 5 (0,0))else R x)=some o:=B;by_cases e:x=g
   ·rw[if_pos e]at B;rw[e,<-B];exact hcs
   ·rw[if_neg e]at B;have:=W.ro x o B;rw[hk.block x (zV this) (by simp)];exact this
  ·by_cases e:x=g
   ·subst e;exact .inr (.inr hg)
   ·left;have B:(if x=g then some (Obj.cells I 5 (0,0))else R x)≠none:=B;rw[if_neg e]at B;exact B
  ·show RoRow R2 true (List.replicate k c).length _ (fun seg=>seg=(List.replicate k c).map u8V);rw[nV];refine .inr ⟨g,0,k,I,5,(0,0),_,tl',rfl,fun _=>rfl,mA _,by show(if g=g then _ else _)=_;rw[if_pos rfl],by rw[uAe];exact htl,?_⟩;rw[List.map_replicate];rfl
 ·cases hs
def Kj(N:Nat):Con:=zzp (zfU N)
theorem zcg(N:Nat):SoundC Tryz.prog GP (Kj N):=zm1 zq6 (zfT N) (fun _ _=>⟨rfl,rfl⟩)
end Go.Proofs.C06
end
