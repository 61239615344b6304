/-
  A part of the proof of the laws.
-/
import Derived.Test.YtannhfbidakffaaGreatDoorAmB
import Derived.Test.YtannhfbidakffaaGreatDoorAm26
import Derived.Lib.MakeNoZero
import Derived.Laws.CopyRow
import Derived.WalkKit
import Derived.Deep.LoopGhost
import Derived.Deep.DeepCutAuto
import Derived.Deep.DeepFit
import Derived.Deep.CutBlock
import Derived.Shelf.Bits.Mul64
import Derived.Deep.MidRow
import Derived.Shelf.RegionOpenPlain
set_option maxHeartbeats 4000000
set_option maxRecDepth 100000
namespace Go.Proofs.C06
open Go Go.RowKit Go.Vc Go.Am
def gl2:Glob:=(4,.agg [.int .u8 66,.int .u8 32,.int .u8 48,.int .u8 48,.int .u8 47,.int .u8 47,.int .u8 44,.int .u8 44,.int .u8 46,.int .u8 46,.int .u8 36,.int .u8 36])::gl
def GP2(R:Ro):Prop:=GP R/\GlobOK gl2 R
theorem Zv:Bas Tryz.prog GP2 gl2:=⟨mixed,fun _ h=>h.2,fun R R' j h=>⟨zsV R R' j h.1,fun g=>zn j _ _ (fun i hi=>by rw[YH]at hi;cases hi) (h.2 g)⟩⟩
theorem up2{C:Con}(h:SoundC Tryz.prog GP C):SoundC Tryz.prog GP2 C:=fun B hh x r I H=>
 let⟨h1,h2⟩:=h B hh x r I H
 ⟨h1,fun R G w vs J W j=>h2 R G w vs J.1 W j⟩
def gl3:Glob:=(1,.agg [.int .u8 63,.int .u8 15,.int .u8 63,.int .u8 15,.int .u8 61,.int .u8 61])::gl2
def GP3(R:Ro):Prop:=GP2 R/\GlobOK gl3 R
theorem zpS:Bas Tryz.prog GP3 gl3:=⟨mixed,fun _ h=>h.2,fun R R' j h=>⟨Zv.hst R R' j h.1,fun g=>zn j _ _ (fun i hi=>by rw[YH]at hi;cases hi) (h.2 g)⟩⟩
theorem zh9{k:Nat}{v:AV}{g:Nat}(h:Nat.beq k g=false):∀gl:Glob,jU (gl++[(k,v)]) g=jU gl g
 |[]=>by show(match Nat.beq k g with|true=>AV.rp v|false=>jU [] g)=_;rw[h]
 |(a,u)::r=>by
  show(match Nat.beq a g with|true=>AV.rp u|false=>jU (r++[(k,v)]) g)=(match Nat.beq a g with|true=>AV.rp u|false=>jU r g)
  rw[zh9 h r]
theorem zbt{k:Nat}{v:AV}(g:Nat):∀gl:Glob,gl.any (fun e=>Nat.beq e.1 k)=true->jU (gl++[(k,v)]) g=jU gl g
 |[],h=>by cases h
 |(a,u)::r,h=>by
  show(match Nat.beq a g with|true=>AV.rp u|false=>jU (r++[(k,v)]) g)=(match Nat.beq a g with|true=>AV.rp u|false=>jU r g)
  cases hb:Nat.beq a g with
  |true=>rfl
  |false=>
   show jU (r++[(k,v)]) g=jU r g;rw[List.any_cons,nO]at h;rcases h with h|h
   ·have e:=mE h;exact zh9 (by rw[<-e];exact hb) r
   ·exact zbt g r h
def zvn:Glob:=gl3++[(1,.undef)]
theorem zEY:Bas Tryz.prog GP3 zvn:=⟨mixed,fun _ h g=>by rw[show zvn=gl3++[(1,.undef)]from rfl,zbt g gl3 dE];exact h.2 g,fun R R' j h=>zpS.hst R R' j h⟩
theorem zum{C:Con}(h:SoundC Tryz.prog GP2 C):SoundC Tryz.prog GP3 C:=fun B hh x r I H=>
 let⟨h1,h2⟩:=h B hh x r I H
 ⟨h1,fun R G w vs J W j=>h2 R G w vs J.1 W j⟩
theorem up3{C:Con}(h:SoundC Tryz.prog GP C):SoundC Tryz.prog GP3 C:=zum (up2 h)
def BR(n:Nat)(v:Value)(w:World)(e:Ending)(w':World):Prop:=∃g cs,e=.returned (.slice (some ⟨g,0,none⟩) n n)/\Keeps [] w w'/\w.heap.size<=g/\w'.heap[g]? =some (.cells cs 5 (0,0))/\∃tl,cs.toList=List.replicate n v++tl
theorem zt4(p:Addr)(cap:Nat)(v:Value)(w:World):Calls Tryz.prog 88 #[.slice (some p) 1 cap,.int .i64 0] w (BR 0 v w):=by
 have mixed:=Tryz.checked.mixed
 go_enter Tryz.func88,Tryz.ntmps88
 go_wp2
 go_ret
 exact⟨w.heap.size,#[],rfl,Keeps.of_below ((Below.refl _ w).alloc (mH _) _),mH _,heap_alloc_new w _,[],rfl⟩
def BrRow(w:World)(g n q:Nat)(v:Value)(W:World):Prop:=Keeps [] w W/\w.heap.size<=g/\∃cs,W.heap[g]? =some (.cells cs 5 (0,0))/\n<=cs.size/\∃tl,cs.toList=List.replicate q v++tl
theorem zcG{w W:World}{g:Nat}{cs:Array Value}(h:Keeps [] w W)(B:w.heap.size<=g):Keeps [] w (W.setRow g cs):=by
 refine⟨h.os,h.tape,h.output,?_,fun k hk j=>?_⟩
 ·refine nD h.size ?_;simp[World.setRow]
 ·rw[<-h.block k hk j];simp only[World.setRow];rw[uAx,if_neg oM]
theorem zwN{v:Value}{q:Nat}{tl:List Value}{cs:Array Value}(h:cs.toList=List.replicate q v++tl){i:Nat}(hi:i<q):cs[i]? =some v:=by rw[<-uAR,h,nH (by simpa using hi)];simp[hi]
theorem BrRow.copy{w W:World}{g n q k:Nat}{v:Value}(h:BrRow w g n q v W)(hv:v.oneCell'=true)(hk:k<=q)(hq:q<=n)(B H:Nat):
  ∃W',(Builtin.copy_ #[22,22] 3 #[.slice (some ⟨g,q,none⟩) (n-q) B,.slice (some ⟨g,0,none⟩) k H]).run Tryz.prog W=.ok (.int .i64 ((k.min (n-q):Nat):Int)) W'/\BrRow w g n (q+k.min (n-q)) v W':=by
 obtain⟨Y,U,cs,J,h4,tl,O⟩:=h;obtain⟨r,I⟩:∃r,k.min (n-q)=r:=⟨_,rfl⟩
 have hrk:r<=k:=I▸Nat.min_le_left _ _;have hrn:r<=n-q:=I▸Nat.min_le_right _ _;rw[I];have hl:cs.size=q+tl.length:=by rw[<-Array.length_toList,O];simp
 refine⟨_,by
  have:=run_copy_row (P:=Tryz.prog) W 22 22 3 5 g q (n-q) B ⟨g,0,none⟩ k H cs 5 (List.replicate r v) kR kR J (by rw[mK,I])
   (fun j u hj=>by obtain⟨S,rfl⟩:=mG.1 hj;simp only[mK]at S;rw[XD,uAn];simp only[World.cell?,J];rw[zwN O oM];simp) (by simp only[mK];omega) (fun u Z=>by rw[List.eq_of_mem_replicate Z];exact hv)
  rw[mK]at this;exact this,zcG Y U,U,_,setRow_heap W g cs _ _ _ J,?_,tl.drop r,?_⟩
 ·simp only[List.size_toArray,mO,mI,mK,mP,Array.length_toList];omega
 ·rw[List.toList_toArray,O,uAK sI,nQ sI,List.drop_append,mK,Nat.add_sub_cancel_left,uAE sI,uAH,List.replicate_append_replicate]
theorem BrRow.drew{w W:World}{g n q:Nat}{v:Value}(h:BrRow w g n q v W):BrRow w g n q v W.drew:=
 ⟨h.1.trans (Keeps.drawn W _),h.2.1,h.2.2⟩
theorem zft{p:Addr}{v:Value}(w:World)(o:Obj)(h:w.cell? p=some v):(w.alloc o).drew.drew.cell? p=some v:=by show(w.alloc o).cell? p=some v;rw[World.cell?_alloc_lt _ _ _ (World.block_lt_of_cell? _ _ (by rw[h]))];exact h
theorem zt5(p:Addr)(cap c n:Nat)(w:World)(Y:w.cell? p=some (.int .u8 c))(hn1:1<=n)(hn:n<=140737488355328)
  (J:∀w:World,Calls Tryz.prog 149 #[.int .u64 1,.int .u64 n] w fun e w'=>e=.returned (.tuple #[.int .u64 0,.int .u64 n])/\w'=w):
  Calls Tryz.prog 88 #[.slice (some p) 1 cap,.int .i64 n] w (BR n (.int .u8 c) w):=by
 have mixed:=Tryz.checked.mixed;have eM:∀S w,(callFunc 149 S).run Tryz.prog w=.ok (.enter 149 S) w:=jk kR;have t22:Tryz.prog.underlying 22=some (.slice 5):=kR
 obtain⟨cs,O,hle,hmax⟩:=Lib.run_makeNoZero (P:=Tryz.prog) w #[3] 22 5 t22 n oM;have U:(callFunc 150 #[.int .i64 n]).run Tryz.prog w=.ok (.value (.slice (some ⟨w.heap.size,0,none⟩) n cs.size)) (w.drew.drew.alloc (.cells cs 5)):=by rw[run_callFunc_extern Tryz.func150 kR kR kR (e:=Extern.BytealgMakeNoZero.makeNoZero #[3] #[22]) kR,O];rfl
 have hw1:IntKind.u64.wrap (1:Int)=1:=dE
 have hw2:IntKind.u64.wrap (n:Int)=n:=by rw[IntKind.wrap_u64];omega
 have hw3:IntKind.i64.wrap (n:Int)=n:=by rw[IntKind.wrap_i64];omega
 have hM:=J w;have hA:Aside (n<=cs.size):=hle;clear O hle hmax J
 go_enter Tryz.func88,Tryz.ntmps88
 go_upto_if 42 with(go_at_fn 149;go_fit hM;rintro e w' ⟨rfl,hw⟩;rw[hw])
 go_cut [8] (fun s8 wx=>w=wx/\∃m:Nat,1<=m/\s8=.int .i64 m)
 case first=>
  go_wp2
  all_goals go_meet
  all_goals first|exact⟨rfl,8192,dE,rfl⟩|exact⟨rfl,n,hn1,rfl⟩
 case rest=>
  obtain⟨rfl,m,hm,rfl⟩:=hcut;have hg:(w.alloc (.cells cs 5)).drew.drew.heap[w.heap.size]? =some (.cells cs 5 (0,0)):=heap_alloc_new w _;have I:=run_copy_row (P:=Tryz.prog) (w.alloc (.cells cs 5)).drew.drew 22 22 3 5 w.heap.size 0 n n p 1 cap cs 5 [.int .u8 c] t22 kR hg
   (by simp only[uAz];exact (uAF hn1).symm) (fun j v hj=>by
    cases j with
    |zero=>
     cases hj;have e:p.add 0=p:=by unfold Addr.add;split<;>simp_all
     rw[e];exact (zft w _ Y)
    |succ j=>cases hj) (by simp only[uAz];have:=hA.out;omega) (fun u hu=>by rw[mL.1 hu];rfl)
  have B:BrRow w w.heap.size n 1 (.int .u8 c) ((w.alloc (.cells cs 5)).drew.drew.setRow w.heap.size (cs.toList.take 0++[Value.int .u8 c]++cs.toList.drop (0+[Value.int .u8 c].length)).toArray):=by
   refine⟨zcG (Keeps.of_below (((Below.refl _ w).alloc (mH _) _).drew.drew)) (mH _),mH _,_,setRow_heap _ _ cs _ _ _ hg,?_,cs.toList.drop 1,?_⟩
   ·have:=hA.out;simp only[List.size_toArray,mO,mI,mP,uAz,Array.length_toList];omega
   ·simp
  generalize (w.alloc (.cells cs 5)).drew.drew.setRow w.heap.size (cs.toList.take 0++[Value.int .u8 c]++cs.toList.drop (0+[Value.int .u8 c].length)).toArray=W1 at I B;clear hg;have hB:Aside (BrRow w w.heap.size n 1 (.int .u8 c) W1):=B;clear B
  go_wp2
  go_loopg [10,11] (n-1) (fun g s10 s11 wx=>∃q:Nat,1<=q/\q+g=n/\s10=.int .i64 q/\BrRow w w.heap.size n q (.int .u8 c) wx)
  case atStart=>exact⟨1,mH _,oM,rfl,hB.out⟩
  case round=>
   obtain⟨q,hq1,hqg,rfl,hR⟩:=hrel;have hR':Aside (BrRow w w.heap.size n q (.int .u8 c) wr):=hR;clear hR hB I U hM;cases gk with
   |zero=>
    obtain rfl:q=n:=oM
    go_wp2
    go_ret
    obtain⟨h1,h2,cs',h3,h4,tl,h5⟩:=hR'.out;exact⟨_,cs',rfl,h1,h2,h3,tl,h5⟩
   |succ g=>
    have hlt:(q:Int)<(n:Int):=oM
    obtain⟨k,hk1,Z,hmin,hmin2⟩:∃k:Nat,Aside (1<=k)/\Aside (k<=q)/\(∀(ts:Array TypeId)(t:TypeId)(W:World),(Builtin.min_ ts t #[.int .i64 (q:Int),.int .i64 (m:Int)]).run Tryz.prog W=.ok (.int .i64 (k:Int)) W)/\min (q:Int) (m:Int)=(k:Int):=by
     rcases Nat.lt_or_ge m q with h|h
     ·exact⟨m,hm,by show m<=q;omega,fun ts t W=>by simp[Builtin.min_,Builtin.min2,show(m:Int)<q by omega],oM⟩
     ·exact⟨q,hq1,mH _,fun ts t W=>by simp[Builtin.min_,Builtin.min2,show¬(m:Int)<q by omega],oM⟩
    obtain⟨W2,I,B⟩:=hR'.out.drew.copy (k:=k) rfl Z.out oM (n-q) n;have H:Aside (BrRow w w.heap.size n (q+k.min (n-q)) (.int .u8 c) W2):=B;have hr:Aside (1<=k.min (n-q)/\k.min (n-q)<=n-q):=⟨Nat.le_min.2 ⟨hk1.out,oM⟩,Nat.min_le_right _ _⟩
    clear B;generalize k.min (n-q)=r at I H hr;have hwr:Aside (wrap64 ((q:Int)+(r:Int))=((q+r:Nat):Int)):=by have:=hr.out;show wrap64 _=_;unfold wrap64;omega
    have hkn:k<=n:=by have:=Z.out;omega
    go_wp2
    go_region_o
    all_goals
     go_wp2
     have h1:=hr.out
     go_roundg (n-(q+r))
     case measure=>omega
     case rel=>exact⟨q+r,oM,oM,by rw[hwr.out],H.out⟩
def zjA(l:uAU)(n:Int):Option uAU:=match l with
 |[c]=>chk (decide (0<=n)&&decide (n<=140737488355328)) (some (List.replicate n.toNat c))
 |_=>none
def ziM(_:Nat):Con:=mkC 88 (cv (lc (vb false) (la (vI .i64) [])) []) (ov_ (vb true) []:Od uAU) fun x=>zjA x.1 x.2
theorem ziL(N:Nat):SoundC Tryz.prog GP (ziM N):=by
 intro O h x r hd hs;obtain⟨B,hh⟩:=(cv (ρ:=rE) (lc (vb false) (la (vI .i64) [])) []).ok O h x hd;have hh:h=[]:=hh;have B:O=[.rob false x.1,.int .i64 x.2]:=B;subst B hh;have hs:zjA x.1 x.2=some r:=hs;obtain⟨l,n⟩:=x;unfold zjA at hs;split at hs
 ·rename_i c hc;obtain⟨h1,h2⟩:=zm hs;obtain⟨h3,h4⟩:=KX h1;have h3:=Zr h3;have h4:=Zr h4;cases h2;obtain⟨k,rfl⟩:∃k:Nat,n=k:=⟨n.toNat,by simp only at h3;omega⟩
  refine⟨jk kR,fun R G w vs hGP W Z=>?_⟩;obtain⟨u,us,rfl,hu,u2,us2,rfl,Y,H⟩:=Z;have H:us2=[]:=H;have Y:u2=.int .i64 (k:Int):=Y;subst H Y;obtain rfl:l=[c]:=hc;obtain⟨h5,_⟩|⟨b,off,cap,cs,T,fr,seg,tl,rfl,h5,h6,h7,h8,h9⟩:=hu
  ·cases(show(1:Nat)=0 from h5)
  have U:w.cell? ⟨b,off,none⟩=some (.int .u8 c.toNat):=by have h7:=W.ro b _ h7;simp only[World.cell?,h7];rw[<-uAR];have e:=congrArg (·[0]?) h8;simp only[nI,uAa]at e;rw[e,h9];rfl
  have S:Calls Tryz.prog 88 #[.slice (some ⟨b,off,none⟩) 1 cap,.int .i64 k] w (BR k (.int .u8 c.toNat) w):=by
   rcases Nat.eq_zero_or_pos k with h0|h0
   ·subst h0;exact zt4 _ _ _ _
   ·exact zt5 _ _ _ k w U h0 (by simp only at h4;omega) fun w0=>by have:=Tryz.bits_Mul 1 k dE (by simp only at h4;omega) w0;rw[Nat.one_mul,Nat.div_eq_of_lt (by simp only at h4;omega),nV (by simp only at h4;omega)]at this;exact this
  refine S.mono fun e w' ⟨g,I,he,hk,hg,hcs,tl',htl⟩=>?_
  let R2:Ro:=fun x=>if x=g then some (.cells I 5 (0,0))else R x
  have hRg:R g=none:=by
   rcases ho:R g with _|o
   ·rfl
   ·have:=ja (W.ro g o ho);omega
  have hR2:∀b o,R b=some o->R2 b=some o:=fun b o hb=>by show(if b=g then some (Obj.cells I 5 (0,0))else R b)=some o;rw[if_neg (fun e=>by subst e;rw[hRg]at hb;cases hb)];exact hb
  show∃V R' G',e=.returned V/\WRel R' G' [] w'/\Since ⟨R,Am.look G [],fpsAll G [],w,0⟩ R' G' [] w'/\Rel (Am.look G' []) R' (.rob true (List.replicate k c)) V;refine⟨_,R2,[],he,⟨rfl,fun i o q ho=>by simp[hget]at ho,fun i j ri rj _ hl=>by obtain⟨o,ho⟩:=hl;simp[hget]at ho,fun i q hl=>by obtain⟨o,ho⟩:=hl;simp[hget]at ho,fun x o J=>?_⟩,
   ⟨hk.mono sI,hR2,fun x J=>?_,fun i q b hl=>by obtain⟨o,ho⟩:=hl;simp[hget]at ho,fun i hi=>by simp at hi,mH _⟩,?_⟩
  ·replace J:(if x=g then some (Obj.cells I 5 (0,0))else R x)=some o:=J;by_cases e:x=g
   ·rw[if_pos e]at J;rw[e,<-J];exact hcs
   ·rw[if_neg e]at J;have:=W.ro x o J;rw[hk.block x (ja this) sI];exact this
  ·by_cases e:x=g
   ·subst e;exact .inr (.inr hg)
   ·left;have J:(if x=g then some (Obj.cells I 5 (0,0))else R x)≠none:=J;rw[if_neg e]at J;exact J
  ·show RoRow R2 true (List.replicate k c).length _ (fun seg=>seg=(List.replicate k c).map u8V);rw[mK];refine .inr ⟨g,0,k,I,5,(0,0),_,tl',rfl,fun _=>rfl,mH _,by show(if g=g then _ else _)=_;rw[if_pos rfl],by rw[nS];exact htl,?_⟩;rw[List.map_replicate];rfl
 ·cases hs
def zaW(N:Nat):Con:=zyc (ziM N)
theorem JC(N:Nat):SoundC Tryz.prog GP (zaW N):=zia zsV (ziL N) (fun _ _=>⟨rfl,rfl⟩)
end Go.Proofs.C06
