/-
  A part of the proof of the laws.
-/
import Derived.Test.YtdkkileemeopbaaGreatDoorEd
section
set_option maxRecDepth 100000
namespace Go.Proofs.C06
open Go Go.RowKit Go.Vc Go.Am Go.Dg
def okB(c:UInt8):Bool:=([66,48,47,44,46,36,43,45,57,90,42,86]:uBp).contains c
structure BF(fl:UInt8)(b:uBp):Prop where
 sy:∀c∈b,okB c=true
 fl4:fl=0\/fl=36\/fl=43\/fl=45
 two:fl≠0->1<b.count fl
 st:fl≠0->(42:UInt8)∉b
 fr:fl≠0->∃x y,b=x++fl::y/\∀c∈x,nb fl c=true
theorem zu8{b:uBp}(h:flo b≠0):1<b.count (flo b):=by
 have hf:=flo_is b;unfold flo at h hf⊢;by_cases h1:1<b.count 45
 ·rw[if_pos h1];exact h1
 ·rw[if_neg h1]at h⊢;by_cases h2:1<b.count 43
  ·rw[if_pos h2];exact h2
  ·rw[if_neg h2]at h⊢;by_cases h3:1<b.count 36
   ·rw[if_pos h3];exact h3
   ·rw[if_neg h3]at h;exact absurd rfl h
theorem ins_of{c:UInt8}(h:j4 c=true):c=66\/c=48\/c=47\/c=44:=by unfold j4 at h;simpa[List.contains_cons]using h
theorem zwD{fl c:UInt8}(hf:fl=36\/fl=43\/fl=45)(h:j4 c=true):nb fl c=true:=by rcases hf with rfl|rfl|rfl<;>rcases ins_of h with rfl|rfl|rfl|rfl<;>decide
theorem zcC{fl:UInt8}(hf:fl=36\/fl=43\/fl=45):∀(b u v:uBp),noIns b=u++fl::v->(∀c∈u,nb fl c=true)->∃x y,b=x++fl::y/\∀c∈x,nb fl c=true
 |[],u,v,h,_=>by have:=congrArg List.length h;simp[noIns]at this
 |c::b,u,v,h,hu=>by
  rw[JO]at h;cases hi:j4 c with
  |true=>
   rw[hi,if_pos rfl]at h;obtain⟨x,y,h1,h2⟩:=zcC hf b u v h hu;refine⟨c::x,y,by rw[h1];rfl,fun d hd=>?_⟩;rcases mU.1 hd with rfl|hd
   ·exact zwD hf hi
   ·exact h2 d hd
  |false=>
   rw[hi,if_neg (by decide)]at h;cases u with
   |nil=>have h1:c=fl:=(List.cons.inj h).1;subst h1;exact⟨[],b,rfl,fun d hd=>by cases hd⟩
   |cons e u=>
    have h1:c=e:=(List.cons.inj h).1;subst h1;obtain⟨x,y,h1,h2⟩:=zcC hf b u v (List.cons.inj h).2 (fun d hd=>hu d (by simp[hd]));refine⟨c::x,y,by rw[h1];rfl,fun d hd=>?_⟩;rcases mU.1 hd with rfl|hd
    ·exact hu _ (by simp)
    ·exact h2 d hd
theorem mem_noIns{c:UInt8}{b:uBp}(h:c∈b):j4 c=true\/c∈noIns b:=by
 cases hi:j4 c with
 |true=>exact .inl rfl
 |false=>exact .inr (uAl.2 ⟨h,by rw[hi];rfl⟩)
theorem EdF.chars{sg0:Nat}{q:uBp}{dg sc:Nat}{sn:Bool}{s1 m1:uBp}{c:UInt8}{k m:Nat}{pt:uBp}{x:UInt8}{f:Nat}{e:uBp}(h:EdF sg0 q dg sc sn s1 m1 c k m pt x f e){y:UInt8}(hy:y∈q):
  okB y=true/\(zcy c k->y≠42):=by
 rw[h.eq]at hy;simp only[mO,List.mem_replicate]at hy;rcases hy with hy|hy|hy|hy|hy|hy|hy
 ·rcases h.hs1 with r|r|r<;>rw[r]at hy<;>simp at hy<;>subst hy<;>exact⟨by decide,fun _=>by decide⟩
 ·rcases h.hm1 with r|r<;>rw[r]at hy<;>simp at hy<;>subst hy<;>exact⟨by decide,fun _=>by decide⟩
 ·obtain⟨h0,rfl⟩:=hy;rcases h.run with r|r|r|⟨_,r⟩
  ·exact absurd r h0
  ·subst r;exact⟨by decide,fun _=>by decide⟩
  ·subst r;exact⟨by decide,fun hf=>by rcases hf.2 with r|r|r<;>cases r⟩
  ·rcases r with r|r|r<;>subst r<;>exact⟨by decide,fun _=>by decide⟩
 ·obtain⟨_,rfl⟩:=hy;exact⟨by decide,fun _=>by decide⟩
 ·rcases h.hpt with⟨r,_⟩|⟨r,_⟩|r<;>rw[r]at hy<;>simp at hy<;>subst hy<;>exact⟨by decide,fun _=>by decide⟩
 ·obtain⟨h0,rfl⟩:=hy;rcases h.fx (by omega)with r|⟨_,⟨h1,r⟩|⟨h1,r⟩⟩
  ·subst r;exact⟨by decide,fun _=>by decide⟩
  ·subst r;rcases h.run with r|r|r|⟨_,r⟩
   ·omega
   ·subst r;exact⟨by decide,fun _=>by decide⟩
   ·subst r;exact⟨by decide,fun hf=>by rcases hf.2 with r|r|r<;>cases r⟩
   ·rcases r with r|r|r<;>subst r<;>exact⟨by decide,fun _=>by decide⟩
  ·refine⟨?_,fun hf=>by have:=hf.1;omega⟩;rcases r with r|r<;>subst r<;>decide
 ·rcases h.he with r|r|r<;>rw[r]at hy<;>simp at hy<;>subst hy<;>exact⟨by decide,fun _=>by decide⟩
theorem zpT{p:uBp}{d cc:Nat}{sn:Bool}(h:edS p=some (d,cc,sn)):BF (flo (edBody p)) (edBody p):=by
 obtain⟨s1,m1,c,k,m,pt,x,f,e,hE⟩:=K7 h;have hfl:=hE.flo;rw[zcF]at hfl;have isf:flo (edBody p)≠0->zcy c k/\flo (edBody p)=c:=by
  intro h0;by_cases hf:zcy c k
  ·rw[if_pos hf]at hfl;exact⟨hf,hfl⟩
  ·rw[if_neg hf]at hfl;exact absurd hfl h0
 refine⟨fun y hy=>?_,flo_is _,fun h0=>zu8 h0,fun h0 hy=>?_,fun h0=>?_⟩
 ·rcases mem_noIns hy with hi|hi
  ·rcases ins_of hi with rfl|rfl|rfl|rfl<;>decide
  ·exact (hE.chars hi).1
 ·rcases mem_noIns hy with hi|hi
  ·cases hi
  ·exact (hE.chars hi).2 (isf h0).1 rfl
 ·obtain⟨hf,hc⟩:=isf h0;rw[hc];obtain⟨k',rfl⟩:∃k',k=k'+1:=⟨k-1,by have:=hf.1;omega⟩
  refine zcC hf.2 (edBody p) (s1++m1) (List.replicate k' c++(List.replicate m 57++(pt++(List.replicate f x++e)))) ?_ ?_
  ·rw[hE.eq,nM,mK];rfl
  ·intro y hy;rcases mO.1 hy with hy|hy
   ·have hs:s1≠[]:=fun r=>by rw[r]at hy;cases hy
    have hsl:s1.length=1:=by rcases hE.hs1 with r|r|r<;>rw[r]at hs⊢ <;>first|rfl|exact absurd rfl hs
    have hsg:=hE.hsg;have hc36:c=36:=by
     rcases hf.2 with r|r|r
     ·exact r
     ·rw[if_pos (show 0<k'+1/\(c=43\/c=45)from⟨by omega,.inl r⟩)]at hsg;omega
     ·rw[if_pos (show 0<k'+1/\(c=43\/c=45)from⟨by omega,.inr r⟩)]at hsg;omega
    subst hc36;rcases hE.hs1 with r|r|r<;>rw[r]at hy<;>simp at hy<;>subst hy<;>decide
   ·have hd:m1=[36]:=by rcases hE.hm1 with r|r<;>rw[r]at hy⊢;cases hy
    have hne:=hE.dol hd (by omega);rw[hd]at hy;simp at hy;subst hy;rcases hf.2 with r|r|r
    ·exact absurd r hne
    ·subst r;decide
    ·subst r;decide
theorem zop{fl:UInt8}(hf:fl=0\/fl=36\/fl=43\/fl=45):dig fl 86=false:=by rcases hf with rfl|rfl|rfl|rfl<;>decide
theorem ztw{fl:UInt8}(hf:fl=0\/fl=36\/fl=43\/fl=45):dig fl 46=false:=by rcases hf with rfl|rfl|rfl|rfl<;>decide
theorem zwS{fl:UInt8}(hf:fl=0\/fl=36\/fl=43\/fl=45):dig fl 66=false:=by rcases hf with rfl|rfl|rfl|rfl<;>decide
theorem jS(fl:UInt8)(f:Bool)(c:UInt8)(z ds:uBp):atL fl f (c::z) ds=if c=fl/\f=false then 0::atL fl true z ds else if dig fl c=true then ds.headD 0::atL fl f z ds.tail else 0::atL fl f z ds:=rfl
theorem j3(fl:UInt8)(f:Bool)(c:UInt8)(z:uBp):need fl f (c::z)=if dig fl c=true then(if c=fl/\f=false then need fl true z else need fl f z+1)else need fl f z:=rfl
theorem zbY(fl:UInt8):∀(f:Bool)(x y ds:uBp),atL fl f (x++y) ds=atL fl f x ds++atL fl (f||x.contains fl) y (ds.drop (need fl f x))
 |f,[],y,ds=>by simp[atL,need]
 |f,c::x,y,ds=>by
  rw[nU,jS,jS,j3];by_cases h1:c=fl/\f=false
  ·have hd:dig fl c=true:=by rw[h1.1];exact qb fl
   rw[if_pos h1,if_pos h1,if_pos hd,if_pos h1,zbY fl true x y ds,h1.1,h1.2];simp
  ·rw[if_neg h1,if_neg h1,if_neg h1];have hf:(f||(c::x).contains fl)=(f||x.contains fl):=by
    rw[uAa];cases f
    ·have:(fl==c)=false:=by rw[beq_eq_false_iff_ne];rintro rfl;exact h1 ⟨rfl,rfl⟩
     rw[this];rfl
    ·rfl
   by_cases hd:dig fl c=true
   ·rw[if_pos hd,if_pos hd,if_pos hd,zbY fl f x y ds.tail,hf,nU];cases ds with
    |nil=>simp
    |cons d r=>simp
   ·rw[if_neg hd,if_neg hd,if_neg hd,zbY fl f x y ds,hf,nU]
theorem zsE{fl c:UInt8}(h:nb fl c=true):dig fl c=false/\c≠86/\c≠46:=by unfold nb at h;unfold dig;simp only[uBm,uAC,decide_eq_false_iff_not]at h;obtain⟨⟨⟨⟨⟨h1,h2⟩,h3⟩,h4⟩,h5⟩,h6⟩:=h;refine⟨?_,h5,h4⟩;simp[h1,h2,h3,h6]
theorem zlf{fl:UInt8}:∀(f:Bool)(x:uBp),(∀c∈x,nb fl c=true)->need fl f x=0/\x.contains fl=false/\∀ds,atL fl f x ds=List.replicate x.length 0
 |_,[],_=>⟨rfl,rfl,fun _=>rfl⟩
 |f,c::x,h=>by
  obtain⟨h1,_,_⟩:=zsE (h c (by simp));obtain⟨i1,i2,i3⟩:=zlf f x (fun d hd=>h d (by simp[hd]));have hne:c≠fl:=fun e=>by rw[e,qb]at h1;cases h1
  refine⟨?_,?_,fun ds=>?_⟩
  ·unfold need;rw[h1,if_neg (by decide),i1]
  ·rw[uAa,i2,uAV,beq_eq_false_iff_ne];exact fun e=>hne e.symm
  ·rw[jS,if_neg (fun e=>hne e.1),h1,if_neg (by decide),i3];rfl
def plC(neg zs:Bool)(c a:UInt8):uBp:=if c=86 then[]else if zs=true/\c≠46 then[42]else if c=66 then[32]else if a≠0 then[a]else if c=43\/c=45 then[lsg c neg]else[c]
def plL(neg zs:Bool):uBp->uBp->uBp
 |[],_=>[]
 |c::r,a=>plC neg zs c (a.headD 0)++plL neg zs r a.tail
theorem zfc(fl:UInt8)(star neg zs:Bool)(bg en:Nat):∀(x y ax ay:uBp)(i:Nat),ax.length=x.length->
  outL fl star neg zs bg en i (x++y) (ax++ay)=outL fl star neg zs bg en i x ax++outL fl star neg zs bg en (i+x.length) y ay
 |[],y,ax,ay,i,h=>by have:ax=[]:=nB.1 h;subst this;rfl
 |c::x,y,ax,ay,i,h=>by
  cases ax with
  |nil=>simp at h
  |cons d ax=>show chC fl star neg zs bg en i c d++outL fl star neg zs bg en (i+1) (x++y) (ax++ay)=(chC fl star neg zs bg en i c d++outL fl star neg zs bg en (i+1) x ax)++_;rw[zfc fl star neg zs bg en x y ax ay (i+1) (by simpa using h),mK,mI,show i+(x.length+1)=i+1+x.length by omega]
theorem Q7(fl:UInt8)(star neg zs:Bool)(bg en:Nat):∀(r a:uBp)(i:Nat),(∀j,i<=j->j<i+r.length->¬(bg<=j/\j<en))->outL fl star neg zs bg en i r a=plL neg zs r a
 |[],_,_,_=>rfl
 |c::r,a,i,h=>by
  have h0:=h i (mG _) (by simp);show chC fl star neg zs bg en i c (a.headD 0)++_=plC neg zs c (a.headD 0)++_;rw[Q7 fl star neg zs bg en r a.tail (i+1) (fun j h1 h2=>h j (by omega) (by rw[mI];omega))];congr 1;unfold chC plC;by_cases h1:c=86
  ·rw[if_pos h1,if_pos h1]
  ·rw[if_neg h1,if_neg h1];by_cases h2:zs=true/\c≠46
   ·rw[if_pos h2,if_pos h2]
   ·rw[if_neg h2,if_neg h2,if_neg (fun e=>h0 e.1),if_neg (fun e=>h0 e.1)];by_cases h3:c=66
    ·rw[if_pos (.inr h3),if_pos h3]
    ·rw[if_neg (fun e=>e.elim h0 h3),if_neg h3]
def znF(fl:UInt8)(star neg zs:Bool)(k:Nat):uBp:=if zs=true then List.replicate k 42 else if star=true then List.replicate k 42 else if fl≠0/\0<k then List.replicate (k-1) 32++[lsg fl neg]else List.replicate k 32
theorem zlm(fl:UInt8)(star neg zs:Bool)(bg:Nat){en:Nat}:∀(r a:uBp)(i:Nat),bg<=i->en=i+r.length->(∀c∈r,c≠86/\c≠46)->outL fl star neg zs bg en i r a=znF fl star neg zs r.length
 |[],_,i,_,_,_=>by unfold znF;simp[outL]
 |c::r,a,i,hb,he,h=>by
  obtain⟨h1,h2⟩:=h c (by simp);rw[mI]at he;have ih:=zlm fl star neg zs bg (en:=en) r a.tail (i+1) (by omega) (by omega) (fun d hd=>h d (by simp[hd]));show chC fl star neg zs bg en i c (a.headD 0)++_=_;rw[ih];unfold chC znF;rw[if_neg h1,mI];by_cases hz:zs=true
  ·rw[if_pos ⟨hz,h2⟩,if_pos hz,if_pos hz,nM];rfl
  ·rw[if_neg (fun e=>hz e.1),if_neg hz,if_neg hz];by_cases hs:star=true
   ·rw[if_pos ⟨⟨hb,by omega⟩,hs⟩,if_pos hs,if_pos hs,nM];rfl
   ·rw[if_neg (fun e=>hs e.2),if_neg hs,if_neg hs];by_cases hf:fl≠0
    ·rw[if_pos (show fl≠0/\0<r.length+1 from⟨hf,by omega⟩)];by_cases hl:0<r.length
     ·rw[if_neg (by rintro⟨_,_,e⟩;omega),if_pos (.inl ⟨hb,by omega⟩),if_pos ⟨hf,hl⟩];obtain⟨m,hm⟩:∃m,r.length=m+1:=⟨r.length-1,by omega⟩
      rw[hm,Nat.add_sub_cancel,Nat.add_sub_cancel,nM];rfl
     ·have h0:r.length=0:=by omega
      rw[if_pos ⟨⟨hb,by omega⟩,hf,by omega⟩,if_neg (fun e=>hl e.2),h0];rfl
    ·rw[if_neg (fun e=>hf e.2.1),if_pos (.inl ⟨hb,by omega⟩),if_neg (fun e=>hf e.1),if_neg (fun e=>hf e.1),nM];rfl
theorem jE(fc fl:UInt8)(neg:Bool)(c:UInt8)(b:uBp)(w:WS):jz fc fl neg (c::b) w=match zP fc fl neg c w with
 |some w'=>jz fc fl neg b w'
 |none=>none:=rfl
theorem zaP(fc fl:UInt8)(neg:Bool):∀(x y:uBp)(w w':WS),jz fc fl neg x w=some w'->jz fc fl neg (x++y) w=jz fc fl neg y w'
 |[],y,w,w',h=>by cases h;rfl
 |c::x,y,w,w',h=>by
  rw[nU,jE];rw[jE]at h;cases hs:zP fc fl neg c w with
  |none=>rw[hs]at h;cases h
  |some w1=>rw[hs]at h;exact zaP fc fl neg x y w1 w' h
theorem zhq{neg:Bool}{c:UInt8}(hc:okB c=true)(h1:c≠57)(h2:c≠90)(h3:c≠42)(h4:c≠86):plC neg false c 0=[shw c neg]:=by unfold okB at hc;simp only[uAa,uBo,uAV,nP,beq_iff_eq]at hc;rcases hc with rfl|rfl|rfl|rfl|rfl|rfl|rfl|rfl|rfl|rfl|rfl|rfl<;>first|exact absurd rfl h1|exact absurd rfl h2|exact absurd rfl h3|exact absurd rfl h4|(cases neg<;>rfl)
theorem zcM{fl c:UInt8}(h:dig fl c=false):c≠57/\c≠90/\c≠42/\c≠fl:=by unfold dig at h;simp only[uAC,decide_eq_false_iff_not]at h;exact h
theorem zex(fc fl:UInt8)(neg:Bool):∀(x:uBp)(w:WS),(∀c∈x,nb fl c=true/\okB c=true)->w.st=0->jz fc fl neg x w=some ⟨w.ds,w.fst,0,w.out++plL neg false x (List.replicate x.length 0),w.lst⟩/\(plL neg false x (List.replicate x.length 0)).length=x.length
 |[],w,_,h=>⟨by unfold jz plL;rw[<-h,mV],rfl⟩
 |c::x,w,hx,h=>by
  obtain⟨h1,h2⟩:=hx c (by simp);obtain⟨d1,d2,d3⟩:=zsE h1;obtain⟨n1,n2,n3,_⟩:=zcM d1;have hp:=zhq (neg:=neg) h2 n1 n2 n3 d2;have hs:zP fc fl neg c w=some ⟨w.ds,w.fst,0,w.out++[shw c neg],w.lst⟩:=by unfold zP zN;rw[d1,if_neg (by decide),if_neg d2,if_neg d3,h,if_neg (by decide)]
  obtain⟨i1,i2⟩:=zex fc fl neg x ⟨w.ds,w.fst,0,w.out++[shw c neg],w.lst⟩ (fun d hd=>hx d (by simp[hd])) rfl;unfold jz plL;rw[hs,mI,nM,List.headD_cons,List.tail_cons,hp];dsimp only;rw[i1,mK];refine⟨rfl,?_⟩;rw[mM,i2,uAG];omega
theorem zkp(fc fl:UInt8)(neg:Bool):∀(x:uBp)(w:WS),(∀y∈x.zip (atL fl w.fst x w.ds),md y=true)->need fl w.fst x<=w.ds.length->Digs w.ds->w.st=1->
  jz fc fl neg x w=some ⟨w.ds.drop (need fl w.fst x),w.fst||x.contains fl,1,w.out++List.replicate x.length fc,if x=[]then w.lst else((w.out.length+x.length-1:Nat):Int)⟩
 |[],w,_,_,_,h=>by unfold jz need;rw[<-h];simp
 |c::x,w,hx,hn,hd,h=>by
  have fin:∀(ds:uBp)(f:Bool),zP fc fl neg c w=some ⟨ds,f,1,w.out++[fc],(w.out.length:Int)⟩->need fl f x<=ds.length->Digs ds->atL fl w.fst (c::x) w.ds=(atL fl w.fst (c::x) w.ds).headD 0::atL fl f x ds->w.ds.drop (need fl w.fst (c::x))=ds.drop (need fl f x)->(w.fst||(c::x).contains fl)=(f||x.contains fl)->
    jz fc fl neg (c::x) w=some ⟨w.ds.drop (need fl w.fst (c::x)),w.fst||(c::x).contains fl,1,w.out++List.replicate (c::x).length fc,if(c::x)=[]then w.lst else((w.out.length+(c::x).length-1:Nat):Int)⟩:=by
   intro ds f hs h1 h2 h3 h4 h5;have ih:=zkp fc fl neg x ⟨ds,f,1,w.out++[fc],(w.out.length:Int)⟩ (fun y hy=>hx y (by rw[h3,List.zip_cons_cons];exact nJ _ hy)) h1 h2 rfl;unfold jz;rw[hs];dsimp only;rw[ih,h4,h5,if_neg (show¬(c::x)=[]by simp),mK,mI,nM,mM,uAG];congr 2;split
   ·rename_i h0;subst h0;simp
   ·rename_i h0;have:0<x.length:=List.length_pos_iff.2 h0;omega
  have hm:md (c,(atL fl w.fst (c::x) w.ds).headD 0)=true:=by
   refine hx _ ?_;have hl:=Wm fl w.fst (c::x) w.ds;cases ha:atL fl w.fst (c::x) w.ds with
   |nil=>rw[ha]at hl;simp at hl
   |cons a r=>rw[List.zip_cons_cons,List.headD_cons];exact nZ ..
  unfold md stp at hm;simp only[mD,uBm,uAC,decide_eq_false_iff_not,nP,decide_eq_true_eq]at hm;obtain⟨⟨⟨m1,m2⟩,m3⟩,m4⟩:=hm;by_cases hg:dig fl c=true
  ·by_cases hf:c=fl/\w.fst=false
   ·refine fin w.ds true ?_ ?_ hd ?_ ?_ ?_
    ·unfold zP Yj zN;rw[if_pos hg,if_pos hf,h,if_pos rfl];simp
    ·rw[j3,if_pos hg,if_pos hf]at hn;exact hn
    ·rw[jS,if_pos hf];rfl
    ·show w.ds.drop (if dig fl c=true then _ else _)=_;rw[if_pos hg,if_pos hf]
    ·rw[hf.2,hf.1];simp
   ·unfold need at hn;rw[if_pos hg,if_neg hf]at hn;cases hds:w.ds with
    |nil=>rw[hds]at hn;simp at hn
    |cons d r=>
     rw[hds]at hd hn;have hd0:=(Digs.cons.1 hd).1;have hat:(atL fl w.fst (c::x) w.ds).headD 0=d:=by rw[jS,if_neg hf,if_pos hg,hds];rfl
     rw[hat]at m4;have hd48:d=48:=by
      rcases m4 with e|e
      ·subst e;exact absurd hd0.1 (by decide)
      ·exact e
     subst hd48;rw[<-hds];refine fin r w.fst ?_ ?_ (Digs.cons.1 hd).2 ?_ ?_ ?_
     ·unfold zP Yj zN;rw[if_pos hg,if_neg hf,hds,h];dsimp only;have h2:(if c=57\/(48:UInt8)≠48 then 2 else if 1=0/\c≠57 then 1 else 1:Nat)=1:=by rw[if_neg (show¬(c=57\/(48:UInt8)≠48)from fun e=>e.elim m3 (fun e=>e rfl)),if_neg (show¬((1:Nat)=0/\c≠57)from fun e=>absurd e.1 (by decide))]
      rw[h2];rfl
     ·rw[mI]at hn;omega
     ·rw[jS,if_neg hf,if_pos hg,hds];rfl
     ·show w.ds.drop (if dig fl c=true then _ else _)=_;rw[if_pos hg,if_neg hf,hds,uBd]
     ·rw[uAa];cases hw:w.fst with
      |true=>rfl
      |false=>
       have:(fl==c)=false:=by rw[beq_eq_false_iff_ne];rintro rfl;exact hf ⟨rfl,hw⟩
       rw[this];rfl
  ·have hg:dig fl c=false:=by simpa using hg
   have hne:c≠fl:=(zcM hg).2.2.2;refine fin w.ds w.fst ?_ ?_ hd ?_ ?_ ?_
   ·unfold zP zN;rw[hg,if_neg (by decide),if_neg m2,if_neg m1,h,decide_eq_true rfl,if_pos rfl]
   ·rw[j3,hg,if_neg (by decide)]at hn;exact hn
   ·rw[jS,if_neg (fun e=>hne e.1),hg,if_neg (by decide)];rfl
   ·show w.ds.drop (if dig fl c=true then _ else _)=_;rw[hg,if_neg (by decide)]
   ·rw[uAa,show(fl==c)=false from beq_eq_false_iff_ne.2 (fun e=>hne e.symm),Bool.false_or]
theorem zg9{fc fl:UInt8}(hfl:fl=0\/fl=36\/fl=43\/fl=45)(neg:Bool):∀(x:uBp)(w:WS),(∀c∈x,okB c=true)->(w.fst=true\/fl=0)->need fl w.fst x<=w.ds.length->Digs w.ds->w.st=2->
  ∃w',jz fc fl neg x w=some w'/\w'.out=w.out++plL neg false x (atL fl w.fst x w.ds)/\w'.lst=w.lst
 |[],w,_,_,_,_,_=>⟨w,rfl,by unfold plL;rw[mV],rfl⟩
 |c::x,w,hx,hf,hn,hd,h=>by
  have hc:=hx c (by simp);have hnf:¬(c=fl/\w.fst=false):=by
   rintro⟨e1,e2⟩;rcases hf with e|e
   ·rw[e2]at e;cases e
   ·rw[e1,e]at hc;revert hc;decide
  have fin:∀(ds:uBp)(o:uBp),zP fc fl neg c w=some ⟨ds,w.fst,2,w.out++o,w.lst⟩->need fl w.fst x<=ds.length->Digs ds->(atL fl w.fst (c::x) w.ds).tail=atL fl w.fst x ds->plC neg false c ((atL fl w.fst (c::x) w.ds).headD 0)=o->
    ∃w',jz fc fl neg (c::x) w=some w'/\w'.out=w.out++plL neg false (c::x) (atL fl w.fst (c::x) w.ds)/\w'.lst=w.lst:=by
   intro ds o hs h1 h2 h3 h4;obtain⟨w',e1,e2,e3⟩:=zg9 (fc:=fc) hfl neg x ⟨ds,w.fst,2,w.out++o,w.lst⟩ (fun d hd=>hx d (by simp[hd])) hf h1 h2 rfl;refine⟨w',?_,?_,e3⟩
   ·unfold jz;rw[hs];exact e1
   ·rw[e2];show _=w.out++(plC neg false c ((atL fl w.fst (c::x) w.ds).headD 0)++plL neg false x (atL fl w.fst (c::x) w.ds).tail)
    rw[h3,h4,mK]
  by_cases hg:dig fl c=true
  ·unfold need at hn;rw[if_pos hg,if_neg hnf]at hn;cases hds:w.ds with
   |nil=>rw[hds]at hn;simp at hn
   |cons d r=>
    rw[hds]at hd hn;have hd0:=(Digs.cons.1 hd).1;rw[<-hds];have hat:atL fl w.fst (c::x) w.ds=d::atL fl w.fst x r:=by show(if c=fl/\w.fst=false then _ else _)=_;rw[if_neg hnf,if_pos hg,hds];rfl
    refine fin r [d] ?_ ?_ (Digs.cons.1 hd).2 ?_ ?_
    ·unfold zP Yj zN;rw[if_pos hg,if_neg hnf,hds,h];dsimp only;have h2:(if c=57\/d≠48 then 2 else if 2=0/\c≠57 then 1 else 2:Nat)=2:=by
      split
      ·rfl
      ·rw[if_neg (by rintro⟨e,_⟩;cases e)]
     rw[h2];rfl
    ·rw[mI]at hn;omega
    ·rw[hat];rfl
    ·rw[hat,List.headD_cons];unfold plC;have hd':d≠0:=by rintro rfl;exact absurd hd0.1 (by decide)
     rw[if_neg (by rintro rfl;rw[zop hfl]at hg;cases hg),if_neg (by rintro⟨e,_⟩;cases e),if_neg (by rintro rfl;rw[zwS hfl]at hg;cases hg),if_pos hd']
  ·have hg:dig fl c=false:=by simpa using hg
   obtain⟨n1,n2,n3,hne⟩:=zcM hg;have hat:atL fl w.fst (c::x) w.ds=0::atL fl w.fst x w.ds:=by show(if c=fl/\w.fst=false then _ else _)=_;rw[if_neg hnf,hg,if_neg (by decide)]
   unfold need at hn;rw[hg,if_neg (by decide)]at hn;by_cases h86:c=86
   ·refine fin w.ds [] ?_ hn hd (by rw[hat];rfl) ?_
    ·unfold zP;rw[hg,if_neg (by decide),if_pos h86,mV]
    ·unfold plC;rw[if_pos h86]
   ·refine fin w.ds [shw c neg] ?_ hn hd (by rw[hat];rfl) ?_
    ·unfold zP zN;rw[hg,if_neg (by decide),if_neg h86];by_cases h46:c=46
     ·subst h46;rw[if_pos rfl,if_neg (by decide)];rfl
     ·rw[if_neg h46,h,if_neg (by decide),<-h]
    ·rw[hat,List.headD_cons,zhq hc n1 n2 n3 h86]
theorem zqm{fc fl:UInt8}(hfl:fl=0\/fl=36\/fl=43\/fl=45)(neg:Bool){c:UInt8}{x:uBp}{w:WS}(_hd:Digs w.ds)(h:md (c,(atL fl w.fst (c::x) w.ds).headD 0)=false):
  jz fc fl neg (c::x) w=jz fc fl neg (c::x) ⟨w.ds,w.fst,2,w.out,w.lst⟩:=by
 have hs:zP fc fl neg c w=zP fc fl neg c ⟨w.ds,w.fst,2,w.out,w.lst⟩:=by
  unfold md stp at h;simp only[Bool.and_eq_false_iff,Bool.not_eq_false',nP,decide_eq_true_eq,uAC,decide_eq_false_iff_not]at h;unfold zP;by_cases hg:dig fl c=true
  ·rw[if_pos hg,if_pos hg];have n46:c≠46:=by rintro rfl;rw[ztw hfl]at hg;cases hg
   have n86:c≠86:=by rintro rfl;rw[zop hfl]at hg;cases hg
   unfold Yj;have hnf:¬(c=fl/\w.fst=false):=by
    intro hf;have ha:(atL fl w.fst (c::x) w.ds).headD 0=0:=by rw[jS,if_pos hf];rfl
    rcases h with h|h
    ·have h57:c=57:=by rcases h with(e|e)|e;exact absurd e n46;exact absurd e n86;exact e
     rw[hf.1]at h57;rcases hfl with e|e|e|e<;>rw[e]at h57<;>cases h57
    ·exact h.1 ha
   dsimp only;rw[if_neg hnf,if_neg hnf];cases hds:w.ds with
   |nil=>rfl
   |cons d r=>
    have ha:(atL fl w.fst (c::x) w.ds).headD 0=d:=by rw[jS,if_neg hnf,if_pos hg,hds];rfl
    have hc:c=57\/d≠48:=by
     rcases h with h|h
     ·rcases h with(e|e)|e;exact absurd e n46;exact absurd e n86;exact .inl e
     ·rw[ha]at h;exact .inr h.2
    dsimp only;rw[if_pos hc,if_pos hc]
  ·have hg:dig fl c=false:=by simpa using hg
   have hf0:¬(false=true):=by decide
   rw[hg,if_neg hf0,if_neg hf0];by_cases h86:c=86
   ·rw[if_pos h86,if_pos h86]
   ·rw[if_neg h86,if_neg h86];by_cases h46:c=46
    ·rw[if_pos h46,if_pos h46]
    ·exfalso;rcases h with h|h
     ·rcases h with(e|e)|e
      ·exact h46 e
      ·exact h86 e
      ·exact (zcM hg).1 e
     ·have ha:(atL fl w.fst (c::x) w.ds).headD 0=0:=by rw[jS,if_neg (fun e=>(zcM hg).2.2.2 e.1),hg,if_neg (by decide)];rfl
      exact h.1 ha
 unfold jz;rw[hs]
end Go.Proofs.C06
end
section
set_option maxRecDepth 100000
namespace Go.Proofs.C06
open Go Go.RowKit Go.Vc Go.Am Go.Dg
theorem zkR:∀(r a:uBp),a.length=r.length->∃mid rest am ar,r=mid++rest/\a=am++ar/\am.length=mid.length/\mid.length=((r.zip a).takeWhile md).length/\(∀y∈mid.zip am,md y=true)/\(∀c x,rest=c::x->md (c,ar.headD 0)=false)
 |[],a,h=>by have:a=[]:=nB.1 h;subst this;exact⟨[],[],[],[],rfl,rfl,rfl,rfl,fun y hy=>by simp at hy,fun c x e=>by cases e⟩
 |c::r,a,h=>by
  cases a with
  |nil=>simp at h
  |cons d a=>
   cases hm:md (c,d)with
   |true=>
    obtain⟨mid,rest,am,ar,h1,h2,h3,h4,h5,h6⟩:=zkR r a (by simpa using h);refine⟨c::mid,rest,d::am,ar,by rw[h1];rfl,by rw[h2];rfl,by simp[h3],?_,?_,h6⟩
    ·rw[List.zip_cons_cons,List.takeWhile_cons,hm,if_pos rfl,mI,mI,h4]
    ·intro y hy;rw[List.zip_cons_cons]at hy;rcases mU.1 hy with rfl|hy
     ·exact hm
     ·exact h5 y hy
   |false=>
    refine⟨[],c::r,[],d::a,rfl,rfl,rfl,?_,fun y hy=>by simp at hy,?_⟩
    ·rw[List.zip_cons_cons,List.takeWhile_cons,hm,if_neg (by decide)];rfl
    ·rintro c' x' e;cases e;exact hm
theorem zkQ(fl:UInt8):∀p:uBp,∃pre r0,p=pre++r0/\(p.takeWhile (nb fl)).length=pre.length/\(∀c∈pre,nb fl c=true)/\(∀c x,r0=c::x->nb fl c=false)
 |[]=>⟨[],[],rfl,rfl,fun c hc=>(by cases hc),fun c x e=>(by cases e)⟩
 |c::p=>by
  cases hm:nb fl c with
  |true=>
   obtain⟨pre,r0,h1,h2,h3,h4⟩:=zkQ fl p;refine⟨c::pre,r0,by rw[h1];rfl,by rw[List.takeWhile_cons,hm,if_pos rfl,mI,mI,h2],fun d hd=>?_,h4⟩;rcases mU.1 hd with rfl|hd
   ·exact hm
   ·exact h3 d hd
  |false=>refine⟨[],c::p,rfl,by rw[List.takeWhile_cons,hm,if_neg (by decide)],fun d hd=>(by cases hd),fun d x e=>?_⟩;cases e;exact hm
theorem zoV{fl:UInt8}:∀(u v:uBp){c d:UInt8}{x y:uBp},u++c::x=v++d::y->(∀e∈u,nb fl e=true)->(∀e∈v,nb fl e=true)->nb fl c=false->nb fl d=false->c=d
 |[],[],c,d,x,y,h,_,_,_,_=>by rw[nX,nX]at h;exact (List.cons.inj h).1
 |[],e::v,c,d,x,y,h,_,hv,hc,_=>by rw[nX,nU]at h;have:=(List.cons.inj h).1;rw[this,hv e (by simp)]at hc;cases hc
 |e::u,[],c,d,x,y,h,hu,_,_,hd=>by rw[nX,nU]at h;have:=(List.cons.inj h).1;rw[<-this,hu e (by simp)]at hd;cases hd
 |e::u,f::v,c,d,x,y,h,hu,hv,hc,hd=>by rw[nU,nU]at h;exact zoV u v (List.cons.inj h).2 (fun z hz=>hu z (by simp[hz])) (fun z hz=>hv z (by simp[hz])) hc hd
theorem Ky(fl:UInt8):∀(f:Bool)(x y:uBp),need fl f (x++y)=need fl f x+need fl (f||x.contains fl) y
 |f,[],y=>by simp[need]
 |f,c::x,y=>by
  rw[nU,j3,j3];by_cases h1:c=fl/\f=false
  ·have hd:dig fl c=true:=by rw[h1.1];exact qb fl
   rw[if_pos hd,if_pos hd,if_pos h1,if_pos h1,Ky fl true x y,h1.1,h1.2];simp
  ·have hf:(f||(c::x).contains fl)=(f||x.contains fl):=by
    rw[uAa];cases f
    ·have:(fl==c)=false:=by rw[beq_eq_false_iff_ne];rintro rfl;exact h1 ⟨rfl,rfl⟩
     rw[this];rfl
    ·rfl
   rw[if_neg h1,if_neg h1,hf,Ky fl f x y];split<;>omega
theorem zpc(neg zs:Bool):∀(x y ax ay:uBp),ax.length=x.length->plL neg zs (x++y) (ax++ay)=plL neg zs x ax++plL neg zs y ay
 |[],y,ax,ay,h=>by have:ax=[]:=nB.1 h;subst this;rfl
 |c::x,y,ax,ay,h=>by
  cases ax with
  |nil=>simp at h
  |cons d ax=>show plC neg zs c d++plL neg zs (x++y) (ax++ay)=(plC neg zs c d++plL neg zs x ax)++_;rw[zpc neg zs x y ax ay (by simpa using h),mK]
theorem VH:∀x y:uBp,stars (x++y)=stars x++stars y
 |[],_=>rfl
 |c::x,y=>by show(if c=86 then stars (x++y)else JI c::stars (x++y))=(if c=86 then stars x else JI c::stars x)++stars y;rw[VH x y];split<;>rfl
theorem VM{fl:UInt8}(hf:fl=0\/fl=36\/fl=43\/fl=45)(neg:Bool):∀(x:uBp)(f:Bool)(ds:uBp),plL neg true x (atL fl f x ds)=stars x
 |[],_,_=>rfl
 |c::x,f,ds=>by
  have key:∀(a:UInt8)(f':Bool)(ds':uBp),(c=46->a=0)->atL fl f (c::x) ds=a::atL fl f' x ds'->plL neg true (c::x) (atL fl f (c::x) ds)=stars (c::x):=by
   intro a f' ds' ha h;rw[h];show plC neg true c a++plL neg true x (atL fl f' x ds')=if c=86 then stars x else JI c::stars x
   rw[VM hf neg x f' ds'];unfold plC JI;by_cases h86:c=86
   ·rw[if_pos h86,if_pos h86];rfl
   ·rw[if_neg h86,if_neg h86];by_cases h46:c=46
    ·rw[if_neg (fun e=>e.2 h46),if_pos h46,ha h46];subst h46;rfl
    ·rw[if_pos ⟨rfl,h46⟩,if_neg h46];rfl
  by_cases h1:c=fl/\f=false
  ·exact key 0 true ds (fun _=>rfl) (by rw[jS,if_pos h1])
  ·by_cases hd:dig fl c=true
   ·refine key (ds.headD 0) f ds.tail (fun e=>?_) (by rw[jS,if_neg h1,if_pos hd]);rw[e,ztw hf]at hd;cases hd
   ·exact key 0 f ds (fun _=>rfl) (by rw[jS,if_neg h1,if_neg hd])
theorem zho:∀x:uBp,(∀c∈x,c≠86/\c≠46)->stars x=List.replicate x.length 42
 |[],_=>rfl
 |c::x,h=>by obtain⟨h1,h2⟩:=h c (by simp);show(if c=86 then stars x else JI c::stars x)=_;unfold JI;rw[if_neg h1,if_neg h2,zho x (fun d hd=>h d (by simp[hd])),mI,nM]
theorem zt6{fl:UInt8}:∀(f:Bool)(x:uBp),(fl=0->∀c∈x,c≠0)->Yf (isZ fl) fl f x=Yq fl x ([90]++if fl=0 then[]else[fl])
 |_,[],_=>rfl
 |f,c::x,h=>by
  have ih:=fun f=>zt6 f x (fun e d hd=>h e d (by simp[hd]))
  have hz:([90]++if fl=0 then[]else[fl]:uBp).contains c=isZ fl c:=by
   unfold isZ;by_cases h0:fl=0
   ·have hc:=h h0 c (by simp);rw[if_pos h0,mV,h0,decide_eq_false hc,uAV];rw[uAi];simp
   ·rw[if_neg h0];rw[uAi];simp
  show(if c=fl/\f=false then Yf (isZ fl) fl true x else if dig fl c=true then isZ fl c&&Yf (isZ fl) fl f x else Yf (isZ fl) fl f x)=((!dig fl c||([90]++if fl=0 then[]else[fl]:uBp).contains c)&&Yq fl x _)
  rw[hz];by_cases h1:c=fl/\f=false
  ·have hi:isZ fl c=true:=by unfold isZ;rw[decide_eq_true h1.1,Bool.or_true]
   rw[if_pos h1,hi,Bool.or_true,uAp,ih]
  ·rw[if_neg h1];cases hd:dig fl c with
   |true=>rw[if_pos rfl,ih];rfl
   |false=>rw[if_neg (by decide),ih];rfl
theorem zeu{fl:UInt8}(hf:fl≠42):∀(f:Bool)(x:uBp),Yf isS fl f x=true->x.count fl<=if f=true then 0 else 1
 |_,[],_=>by simp
 |f,c::x,h=>by
  have h':(if c=fl/\f=false then Yf isS fl true x else if dig fl c=true then isS c&&Yf isS fl f x else Yf isS fl f x)=true:=h;by_cases h1:c=fl/\f=false
  ·rw[if_pos h1]at h';have:=zeu hf true x h';rw[h1.1,h1.2,List.count_cons];simp at this⊢;omega
  ·rw[if_neg h1]at h';by_cases hd:dig fl c=true
   ·rw[if_pos hd,mD]at h';have hc:c=42:=by have:=h'.1;unfold isS at this;simpa using this
    have:=zeu hf f x h'.2;rw[List.count_cons,hc];rw[if_neg (by simp;exact fun e=>hf e.symm)];omega
   ·rw[if_neg hd]at h';have:=zeu hf f x h';have hne:c≠fl:=by rintro rfl;exact hd (qb _)
    rw[List.count_cons,if_neg (by simpa using hne)];omega
theorem zpX{fl:UInt8}:∀(f:Bool)(x:uBp),(∀c∈x,c≠fl)->Yf isS fl f x=Yq fl x [42]
 |_,[],_=>rfl
 |f,c::x,h=>by
  show(if c=fl/\f=false then Yf isS fl true x else if dig fl c=true then isS c&&Yf isS fl f x else Yf isS fl f x)=((!dig fl c||([42]:uBp).contains c)&&Yq fl x _)
  have hz:([42]:uBp).contains c=isS c:=by unfold isS;rw[uAi];simp
  rw[if_neg (fun e=>h c (by simp) e.1),zpX f x (fun d hd=>h d (by simp[hd])),hz];cases dig fl c<;>rfl
theorem zw8{fl:UInt8}{x:uBp}(hB:BF fl x):Yf isS fl false x=Yq fl x [42]:=by
 by_cases h0:fl=0
 ·refine zpX false x fun c hc e=>?_
  have:=hB.sy c hc;rw[e,h0]at this;revert this;decide
 ·have h2:=hB.two h0;have hne:fl≠42:=by rcases hB.fl4 with r|r|r|r<;>rw[r]<;>decide
  have e1:Yf isS fl false x=false:=by
   cases ha:Yf isS fl false x with
   |false=>rfl
   |true=>have:=zeu hne false x ha;simp at this;omega
  have e2:Yq fl x [42]=false:=by unfold Yq;rw[List.all_eq_false];refine⟨fl,List.count_pos_iff.1 (by omega),?_⟩;rw[qb];simpa using hne
  rw[e1,e2]
theorem zua{ds:uBp}(hd:Digs ds):z48 ds=decide (val ds=0):=by
 rw[uAi,decide_eq_true_eq];unfold z48;rw[mZ];constructor
 ·intro h;have:ds=List.replicate ds.length 48:=List.eq_replicate_iff.2 ⟨rfl,fun c hc=>of_decide_eq_true (h c hc)⟩;rw[this];exact Zb _
 ·intro h c hc;exact decide_eq_true (zeM hd h c hc)
theorem zm8(fc fl:UInt8)(neg:Bool){c:UInt8}(x:uBp){ds:uBp}{f:Bool}{out:uBp}{l:Int}(hg:dig fl c=true)(h57:c≠57):
  jz fc fl neg (c::x) ⟨ds,f,0,out,l⟩=jz fc fl neg (c::x) ⟨ds,f,1,out,l⟩:=by
 have hs:zP fc fl neg c ⟨ds,f,0,out,l⟩=zP fc fl neg c ⟨ds,f,1,out,l⟩:=by unfold zP Yj;rw[if_pos hg,if_pos hg];dsimp only;rw[if_pos (show(0:Nat)=0/\c≠57 from⟨rfl,h57⟩),if_neg (show¬((1:Nat)=0/\c≠57)from fun e=>absurd e.1 (by decide))]
 rw[jE,jE,hs]
theorem zk0{fc fl:UInt8}(hfl:fl=0\/fl=36\/fl=43\/fl=45)(neg:Bool){x:uBp}{w:WS}(hx:∀c∈x,okB c=true)(hf:w.fst=true\/fl=0)(hn:need fl w.fst x<=w.ds.length)(hd:Digs w.ds)
  (hm:∀c y,x=c::y->md (c,(atL fl w.fst x w.ds).headD 0)=false):∃w',jz fc fl neg x w=some w'/\w'.out=w.out++plL neg false x (atL fl w.fst x w.ds)/\w'.lst=w.lst:=by
 cases x with
 |nil=>exact⟨w,rfl,by show w.out=w.out++[];rw[mV],rfl⟩
 |cons c y=>rw[zqm hfl neg hd (hm c y rfl)];exact zg9 hfl neg (c::y) ⟨w.ds,w.fst,2,w.out,w.lst⟩ hx hf hn hd rfl
theorem zur{fl:UInt8}(hf:fl=36\/fl=43\/fl=45)(neg:Bool):shw fl neg=lsg fl neg:=by rcases hf with rfl|rfl|rfl<;>cases neg<;>rfl
theorem zut{fl:UInt8}{p ds:uBp}(hB:BF fl p)(hd:Digs ds)(hn:need fl false p<=ds.length)(neg:Bool)(tail:uBp):
  zdS (X6 fl neg tail) (jz (zB p) fl neg p ⟨ds,false,0,[],-1⟩)=some (outL fl (p.contains 42) neg false (JJ fl p (atL fl false p ds)).1 (JJ fl p (atL fl false p ds)).2 0 p (atL fl false p ds)++zl6 neg false tail)/\
  outL fl (p.contains 42) neg true (JJ fl p (atL fl false p ds)).1 (JJ fl p (atL fl false p ds)).2 0 p (atL fl false p ds)=stars p:=by
 obtain⟨pre,r0,hp,hbg,hpre,hr0⟩:=zkQ fl p;obtain⟨n1,n2,n3⟩:=zlf false pre hpre;have hat:atL fl false p ds=List.replicate pre.length 0++atL fl false r0 ds:=by have:=zbY fl false pre r0 ds;rw[<-hp,n1,n2,n3]at this;exact this
 have hneed:need fl false r0<=ds.length:=by have:=Ky fl false pre r0;rw[<-hp,n1,n2]at this;simp at this;omega
 have hok:∀c∈pre,nb fl c=true/\okB c=true:=fun c hc=>⟨hpre c hc,hB.sy c (by rw[hp];simp[hc])⟩
 have hokr:∀c∈r0,okB c=true:=fun c hc=>hB.sy c (by rw[hp];simp[hc])
 obtain⟨w1,w2⟩:=zex (zB p) fl neg pre ⟨ds,false,0,[],-1⟩ hok rfl;rw[nX]at w1;have hrun:=zaP (zB p) fl neg pre r0 _ _ w1;rw[<-hp]at hrun;have hfirst:fl≠0->∀c x,r0=c::x->c=fl:=by
  intro h0 c x hcx;obtain⟨x',y',hp',hx'⟩:=hB.fr h0;refine zoV pre x' (c:=c) (d:=fl) (x:=x) (y:=y') ?_ hpre hx' (hr0 c x hcx) ?_
  ·rw[<-hcx,<-hp,<-hp']
  ·unfold nb;simp
 have hne0:fl≠0->fl=36\/fl=43\/fl=45:=fun h0=>hB.fl4.elim (fun e=>absurd e h0) id
 have hstp:fl≠0->stp fl=false:=fun h0=>by rcases hne0 h0 with r|r|r<;>rw[r]<;>decide
 have hz:(List.replicate pre.length (0:UInt8)).length=pre.length:=mN;by_cases hst:∃c x,r0=c::x/\stp c=false
 ·obtain⟨c,x,hcx,hsc⟩:=hst;have hspan:JJ fl p (atL fl false p ds)=(pre.length,pre.length+((r0.zip (atL fl false r0 ds)).takeWhile md).length):=by
   have hb:bgV fl p=pre.length:=hbg;have hg:p.getD pre.length 0=c:=by rw[hp,hcx];simp
   unfold JJ;rw[hb,hg,hsc,if_neg (by rintro⟨_,e⟩;cases e)];unfold enV;rw[hat,hp,List.drop_left' rfl,List.drop_left' hz]
  obtain⟨mid,rest,am,ar,h1,h2,h3,h4,h5,h6⟩:=zkR r0 (atL fl false r0 ds) (Wm _ _ _ _);have hA:=zbY fl false mid rest ds;rw[<-h1,h2]at hA;obtain⟨ha1,ha2⟩:=List.append_inj hA (by rw[h3,Wm]);have hN:=Ky fl false mid rest;rw[<-h1]at hN;rw[Bool.false_or]at ha2 hN;have hmid:∀c∈mid,c≠86/\c≠46:=by
   intro c hc;obtain⟨i,hi,rfl⟩:=List.mem_iff_getElem.1 hc;have hi2:i<(mid.zip am).length:=by rw[List.length_zip];omega
   have:=h5 _ (uBf hi2);rw[List.getElem_zip]at this;unfold md stp at this;simp only[mD,uBm,uAC,decide_eq_false_iff_not]at this;exact⟨this.1.1.2,this.1.1.1⟩
  have hout:∀zs,outL fl (p.contains 42) neg zs (JJ fl p (atL fl false p ds)).1 (JJ fl p (atL fl false p ds)).2 0 p (atL fl false p ds)=
    plL neg zs pre (List.replicate pre.length 0)++(znF fl (p.contains 42) neg zs mid.length++plL neg zs rest ar):=by
   intro zs;rw[hspan,<-h4];have e:outL fl (p.contains 42) neg zs pre.length (pre.length+mid.length) 0 p (atL fl false p ds)=outL fl (p.contains 42) neg zs pre.length (pre.length+mid.length) 0 (pre++(mid++rest)) (List.replicate pre.length 0++(am++ar)):=by rw[hat,h2,<-h1,<-hp]
   rw[e,zfc _ _ _ _ _ _ _ _ _ _ _ hz,zfc _ _ _ _ _ _ _ _ _ _ _ h3,Q7 _ _ _ _ _ _ pre _ 0 (fun j _ _=>by omega),zlm fl _ neg zs pre.length mid am (0+pre.length) (by omega) (by omega) hmid,
    Q7 _ _ _ _ _ _ rest _ _ (fun j _ _=>by omega)]
  refine⟨?_,?_⟩
  ·rw[hout false,hrun];have hfst:mid.contains fl=true\/fl=0:=by
    by_cases h0:fl=0
    ·exact .inr h0
    ·left;have hcf:=hfirst h0 c x hcx;cases mid with
     |nil=>exfalso;rw[nX]at h1;have:=h6 c x (by rw[<-h1,hcx]);have ham:am=[]:=nB.1 h3;rw[ham,nX]at h2;rw[<-h2,hcx,jS,if_pos ⟨hcf,rfl⟩,List.headD_cons]at this;unfold md at this;rw[hsc]at this;cases this
     |cons d m=>rw[hcx,nU]at h1;have:=(List.cons.inj h1).1;rw[<-this,hcf,uAa,beq_self_eq_true,Bool.true_or]
   have hmrun:jz (zB p) fl neg mid ⟨ds,false,0,plL neg false pre (List.replicate pre.length 0),-1⟩=
     some ⟨ds.drop (need fl false mid),mid.contains fl,if mid=[]then 0 else 1,plL neg false pre (List.replicate pre.length 0)++List.replicate mid.length (zB p),if mid=[]then-1 else((pre.length+mid.length-1:Nat):Int)⟩:=by
    cases hmd:mid with
    |nil=>simp[jz,need]
    |cons d m=>
     rw[hcx,hmd,nU]at h1;have hdc:=(List.cons.inj h1).1;have hdg:dig fl d=true:=by
      have hnb:=hr0 c x hcx;rw[<-hdc];unfold nb at hnb;unfold stp at hsc;unfold dig;simp only[Bool.not_eq_false',nP,decide_eq_true_eq,uAC,decide_eq_false_iff_not]at hnb hsc⊢;rcases hnb with((((e|e)|e)|e)|e)|e
      ·exact .inr (.inl e)
      ·exact .inr (.inr (.inl e))
      ·exact .inr (.inr (.inr e))
      ·exact absurd e hsc.1.1
      ·exact absurd e hsc.1.2
      ·exact .inl e
     have h57:d≠57:=by rw[<-hdc];unfold stp at hsc;simp only[uAC,decide_eq_false_iff_not]at hsc;exact hsc.2
     rw[zm8 _ _ _ _ hdg h57,<-hmd];have:=zkp (zB p) fl neg mid ⟨ds,false,1,plL neg false pre (List.replicate pre.length 0),-1⟩ (by rw[<-ha1];exact h5) (by show need fl false mid<=ds.length;omega) hd rfl;rw[this,if_neg (by rw[hmd];simp),if_neg (by rw[hmd];simp),if_neg (by rw[hmd];simp),w2,Bool.false_or]
   have hrun2:=zaP (zB p) fl neg mid rest _ _ hmrun;rw[<-h1]at hrun2;rw[hrun2];obtain⟨w',e1,e2,e3⟩:=zk0 (fc:=zB p) hB.fl4 neg (x:=rest) (w:=⟨ds.drop (need fl false mid),mid.contains fl,if mid=[]then 0 else 1,plL neg false pre (List.replicate pre.length 0)++List.replicate mid.length (zB p),if mid=[]then-1 else((pre.length+mid.length-1:Nat):Int)⟩)
    (fun d hd'=>hokr d (by rw[h1];simp[hd'])) hfst (by show need fl (mid.contains fl) rest<=(ds.drop (need fl false mid)).length;rw[mJ];omega) (hd.drop _) (by rw[<-ha2];exact h6)
   rw[e1];show some (X6 fl neg tail w')=_;rw[<-ha2]at e2;have he:zl6 neg false tail=if neg=true then tail else List.replicate tail.length 32:=by unfold zl6;rw[if_neg (by decide)]
   unfold X6;rw[e2,e3,he];congr 2;by_cases h0:fl=0
   ·rw[if_neg (fun e=>e.1 h0)];unfold znF zB;rw[if_neg (show¬(false=true)by decide),if_neg (show¬(fl≠0/\0<mid.length)from fun e=>e.1 h0),mK];by_cases h42:p.contains 42=true
    ·rw[if_pos h42,if_pos h42]
    ·rw[if_neg h42,if_neg h42]
   ·have hmne:mid≠[]:=by
     rintro rfl;rcases hfst with e|e
     ·cases e
     ·exact h0 e
    have hpos:0<mid.length:=List.length_pos_iff.2 hmne;have h42:p.contains 42=false:=by have:=hB.st h0;simpa using this
    have hfc:zB p=32:=by unfold zB;rw[h42,if_neg (by decide)]
    dsimp only;rw[if_neg hmne,if_pos ⟨h0,by omega⟩,mP,hfc,zur (hne0 h0)];unfold znF;rw[if_neg (by decide),h42,if_neg (by decide),if_pos ⟨h0,hpos⟩];obtain⟨m,hm⟩:∃m,mid.length=m+1:=⟨mid.length-1,by omega⟩
    rw[hm,Nat.add_sub_cancel,mK,List.set_append_right _ _ (by rw[w2];omega),w2,show pre.length+(m+1)-1-pre.length=m by omega,List.replicate_succ',mK,List.set_append_right _ _ (by rw[mN];omega),mN,uA3,mK];rfl
  ·rw[hout true];have hs:stars p=stars pre++(stars mid++stars rest):=by rw[<-VH,<-VH,<-h1,<-hp]
   rw[hs,zho mid hmid];have e1:plL neg true pre (List.replicate pre.length 0)=stars pre:=by rw[<-n3 ds];exact VM hB.fl4 neg pre false ds
   have e2:plL neg true rest ar=stars rest:=by rw[ha2];exact VM hB.fl4 neg rest _ _
   rw[e1,e2];unfold znF;rw[if_pos rfl]
 ·have hstop:∀c x,r0=c::x->stp c=true:=fun c x e=>by
   cases h:stp c with
   |true=>rfl
   |false=>exact absurd ⟨c,x,e,h⟩ hst
  have hspan:∀j,j<p.length->¬((JJ fl p (atL fl false p ds)).1<=j/\j<(JJ fl p (atL fl false p ds)).2):=by
   intro j hj;unfold JJ;have hb:bgV fl p=pre.length:=hbg;by_cases h:bgV fl p<p.length/\stp (p.getD (bgV fl p) 0)=true
   ·rw[if_pos h];intro e;have:=e.1;omega
   ·rw[if_neg h];have hr:r0=[]:=by
     cases hr:r0 with
     |nil=>rfl
     |cons c x=>
      exfalso;refine h ⟨?_,?_⟩
      ·rw[hb,hp,hr];simp
      ·have hg:p.getD pre.length 0=c:=by rw[hp,hr];simp
       rw[hb,hg];exact hstop c x hr
    rw[hr,mV]at hp;rw[hb,<-hp];intro e;have:=e.1;omega
  have hout:∀zs,outL fl (p.contains 42) neg zs (JJ fl p (atL fl false p ds)).1 (JJ fl p (atL fl false p ds)).2 0 p (atL fl false p ds)=plL neg zs p (atL fl false p ds):=
   fun zs=>Q7 _ _ _ _ _ _ p _ 0 (fun j _ h=>hspan j (by omega))
  refine⟨?_,by rw[hout true];exact VM hB.fl4 neg p false ds⟩;rw[hout false,hrun];have hcond:r0=[]\/fl=0:=by
   cases hr:r0 with
   |nil=>exact .inl rfl
   |cons c x=>
    by_cases h0:fl=0
    ·exact .inr h0
    ·have e:=hfirst h0 c x hr;have:=hstop c x hr;rw[e,hstp h0]at this;cases this
  have key:∃w',jz (zB p) fl neg r0 ⟨ds,false,0,plL neg false pre (List.replicate pre.length 0),-1⟩=some w'/\w'.out=plL neg false pre (List.replicate pre.length 0)++plL neg false r0 (atL fl false r0 ds)/\w'.lst= -1:=by
   rcases hcond with e|e
   ·rw[e];exact⟨_,rfl,by show _=_++[];rw[mV],rfl⟩
   ·refine zk0 (fc:=zB p) hB.fl4 neg (x:=r0) (w:=⟨ds,false,0,plL neg false pre (List.replicate pre.length 0),-1⟩) hokr (.inr e) hneed hd (fun c x hcx=>?_);unfold md;rw[hstop c x hcx];rfl
  obtain⟨w',e1,e2,e3⟩:=key;rw[e1];show some (X6 fl neg tail w')=_;have he:zl6 neg false tail=if neg=true then tail else List.replicate tail.length 32:=by unfold zl6;rw[if_neg (by decide)]
  unfold X6;rw[if_neg (by rw[e3];rintro⟨_,e⟩;exact absurd e (by decide)),e2,he,hat];congr 2;conv=>rhs;rw[hp]
  exact (zpc neg false pre r0 _ _ hz).symm
theorem zbN{s:Shape}{n sc:Nat}{sg:Bool}(h:ES s n sc sg){ds:uBp}(hd:Digs ds)(hl:ds.length=n)(neg:Bool):WM s neg ds (decide (val ds=0))=some (Ka s ds neg):=by
 have hB:BF (flS s) (edBody s.uC):=zpT h.ed;have hn:need (flS s) false (edBody s.uC)=n:=K6 h.ed;obtain⟨r1,r2⟩:=zut hB hd (by omega) neg (zG s.uC);unfold WM Ka;have hzz:z48 (ds.take (need (flS s) false (edBody s.uC)))=decide (val ds=0):=by rw[hn,<-hl,uAx];exact zua hd
 have hbl:XI s=true↔(s.uJ=true\/Yf (isZ (flS s)) (flS s) false (edBody s.uC)=true):=by unfold XI;rw[nP,zt6 false (edBody s.uC)];intro h0 c hc e;have:=hB.sy c hc;rw[e]at this;revert this;decide
 rw[hzz,zw8 hB];generalize decide (val ds=0)=z;by_cases h1:z=true/\XI s=true
 ·rw[if_pos h1,if_pos ⟨h1.1,hbl.1 h1.2⟩]
 ·have h1':¬(z=true/\(s.uJ=true\/Yf (isZ (flS s)) (flS s) false (edBody s.uC)=true)):=fun e=>h1 ⟨e.1,hbl.2 e.2⟩
  rw[if_neg h1,if_neg h1'];by_cases h2:z=true/\Yq (flS s) (edBody s.uC) [42]=true
  ·have hz:(z&&Yq (flS s) (edBody s.uC) [42])=true:=by rw[h2.1,h2.2];rfl
   rw[if_pos h2,hz,r2];congr 1;have ht:stars (zG s.uC)=zl6 neg true (zG s.uC):=by
    unfold zl6 zG;rw[if_pos rfl];split
    ·rename_i h;rcases h with h|h<;>rw[h]<;>rfl
    ·rfl
   rw[<-ht,<-VH,<-zcV]
  ·have hz:(z&&Yq (flS s) (edBody s.uC) [42])=false:=by
    cases h3:(z&&Yq (flS s) (edBody s.uC) [42])with
    |false=>rfl
    |true=>exact absurd (by simpa using h3) h2
   rw[if_neg h2,hz];exact r1
end Go.Proofs.C06
end
