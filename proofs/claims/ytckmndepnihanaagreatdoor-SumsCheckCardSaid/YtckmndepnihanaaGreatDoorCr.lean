/-
  A part of the proof of the laws.
-/
import Derived.Test.YtckmndepnihanaaGreatDoorAm27
section
namespace Go.Am
open Go Go.RowKit Go.Vc
end Go.Am
end
section
namespace Go.Am
open Go Go.RowKit Go.Vc
def zpn:AO→AO→Bool
 |.cells T l,.cells T' l'=>Nat.beq T T'&&qi l l'
 |.bytes T l,.bytes T' l'=>Nat.beq T T'&&decide (l=l')
 |.ints T k l,.ints T' k' l'=>Nat.beq T T'&&kEq k k'&&decide (l=l')
 |.strs T l,.strs T' l'=>Nat.beq T T'&&decide (l=l')
 |.vals T z l,.vals T' z' l'=>Nat.beq T T'&&Nat.beq z z'&&qi l l'
 |.gens T a z n l,.gens T' a' z' n' l'=>(Nat.beq T T'&&Nat.beq z z')&&(((a==a')&&Nat.beq n n')&&qi l l')
 |.mp l,.mp l'=>qi (l.map Prod.fst) (l'.map Prod.fst)&&qi (l.map Prod.snd) (l'.map Prod.snd)
 |_,_=>false
theorem zix:∀(l l':List (AV×AV)),l.map Prod.fst=l'.map Prod.fst→l.map Prod.snd=l'.map Prod.snd→l=l'
 |[],[],_,_=>rfl
 |(a,b)::r,(a',b')::s,h,k=>by simp only[List.map_cons,List.cons.injEq]at h k;rw[h.1,k.1,zix r s h.2 k.2]
 |[],_::_,h,_=>by cases h
 |_::_,[],h,_=>by cases h
theorem zpm:∀(a b:AO),zpn a b=true→a=b:=fun a b h=>by
 cases a<;>cases b<;>simp only[zpn,Bool.and_eq_true,decide_eq_true_eq,beq_iff_eq,Bool.false_eq_true]at h;any_goals first
  |(rw[Nat.eq_of_beq_eq_true h.1,yi _ _ h.2])
  |(rw[Nat.eq_of_beq_eq_true h.1,h.2])
  |(rw[Nat.eq_of_beq_eq_true h.1.1,zcq h.1.2,h.2])
  |(rw[Nat.eq_of_beq_eq_true h.1.1,Nat.eq_of_beq_eq_true h.1.2,yi _ _ h.2])
  |(rw[Nat.eq_of_beq_eq_true h.1.1,Nat.eq_of_beq_eq_true h.1.2,h.2.1.1,Nat.eq_of_beq_eq_true h.2.1.2,yi _ _ h.2.2])
  |(rw[zix _ _ (yi _ _ h.1) (yi _ _ h.2)])
def Zx:Heap→Heap→Bool
 |[],[]=>true
 |none::r,none::s=>Zx r s
 |some a::r,some b::s=>zpn a b&&Zx r s
 |_,_=>false
theorem Zw:∀(a b:Heap),Zx a b=true→a=b
 |[],[],_=>rfl
 |none::r,none::s,h=>by rw[Zw r s h]
 |some a::r,some b::s,h=>by simp only[Zx,Bool.and_eq_true]at h;rw[zpm a b h.1,Zw r s h.2]
 |[],none::_,h=>by cases h
 |[],some _::_,h=>by cases h
 |none::_,[],h=>by cases h
 |some _::_,[],h=>by cases h
 |none::_,some _::_,h=>by cases h
 |some _::_,none::_,h=>by cases h
def zqF(h:Heap):Option Out→Option Out
 |some o=>cond (Zx o.h h) (some o) none
 |none=>none
theorem zab{h:Heap}{x:Option Out}{o:Out}(e:zqF h x=some o):x=some o∧o.h=h:=by
 cases x with
 |none=>cases e
 |some p=>
  have e:cond (Zx p.h h) (some p) none=some o:=e;cases hs:Zx p.h h with
  |false=>rw[hs]at e;cases e
  |true=>rw[hs]at e;cases e;exact⟨rfl,Zw _ _ hs⟩
def zwS(F:FuncId→List AV→Heap→Option Out)(g:FuncId):Con:=Con6.c ⟨g,List AV×Heap,Out,fun a h=>some (a,h),fun x=>F g x.1 x.2,fun _ o=>o⟩
def zwR(F:FuncId→List AV→Heap→Option Out)(g:FuncId):Con:=Con6.c ⟨g,List AV×Heap,Out,fun a h=>some (a,h),fun x=>zqF x.2 (F g x.1 x.2),fun _ o=>o⟩
theorem zjZ(F:FuncId→List AV→Heap→Option Out)(g:FuncId):QuietC (zwR F g):=fun args h x r hd hs=>by have hx:(args,h)=x:=Option.some.inj hd;subst hx;exact (zab hs).2
end Go.Am
end
section
namespace Go.Am
open Go Go.RowKit Go.Vc
def Wm(a b:St):Bool:=Zx a.h b.h&&(a.s.map Prod.fst++b.s.map Prod.fst).all fun t=>zcE (get a.s t) (get b.s t)
theorem zhn:∀{s:Slots}{t:Nat},t∉s.map Prod.fst→get s t=.undef
 |[],_,_=>rfl
 |(x,v)::r,t,h=>by
  simp only[List.map_cons,List.mem_cons,not_or]at h;have hb:Nat.beq x t=false:=by
   cases hb:Nat.beq x t with
   |false=>rfl
   |true=>exact absurd (Nat.eq_of_beq_eq_true hb).symm h.1
  simp only[get,hb];exact zhn h.2
theorem zm4{a b:St}(h:Wm a b=true):Eqv a b:=by
 unfold Wm at h;rw[Bool.and_eq_true,List.all_eq_true]at h;refine⟨fun t=>?_,Zw _ _ h.1⟩;by_cases ht:t∈a.s.map Prod.fst++b.s.map Prod.fst
 ·exact YI _ _ (h.2 t ht)
 ·rw[List.mem_append,not_or]at ht;rw[zhn ht.1,zhn ht.2]
def rmA(i:Nat)(az:List (Oper×Nat)):List (Oper×Nat):=az.filter fun x=>!Nat.beq x.2 i
theorem zhc{i:Nat}{az:List (Oper×Nat)}{x:Oper×Nat}:x∈rmA i az↔x∈az∧x.2≠i:=by
 unfold rmA;rw[List.mem_filter];refine and_congr_right fun _=>?_
 cases hb:Nat.beq x.2 i with
 |true=>exact⟨fun h=>(by cases h),fun h=>absurd (Nat.eq_of_beq_eq_true hb) h⟩
 |false=>exact⟨fun _ e=>(by rw[e,Nat.beq_refl]at hb;cases hb),fun _=>rfl⟩
def candsA(B:List (List Nat))(az:List (Oper×Nat)):List (Oper×Nat):=az.filter fun x=>az.all fun y=>!memN y.2 (B[x.2]?.getD [])
def zry(B:List (List Nat))(pl:List Nat)(j:Nat):Bool:=pl.all fun p=>!memN j (B[p]?.getD [])
def znw{R:Type}(E:Env)(all:List Oper)(base:Nat):List (Oper×Nat)→St→(St→Option R)→Option R
 |[],st,k=>k st
 |(o,j)::r,st,k=>match zhe (fpW E all st (nidOf all base j) o)with
  |false=>none
  |true=>match zu all o st with
   |some true=>opK E true (nidOf all base j) o.op st fun v _=>znw E all base r ⟨putO o.dst v st.s,st.h⟩ k
   |some false=>znw E all base r ⟨putO o.dst (.tup []) st.s,st.h⟩ k
   |none=>none
def Wj(E:Env)(all:List Oper)(base:Nat)(B:List (List Nat))(fs az:List (Oper×Nat))(pl:List Nat)(st:St):Option St:=znw E all base (fs.filter fun f=>zjF B az f.2&&zvp B pl.head? f.2) st fun st=>zk2 E all base (fs.filter fun f=>zjF B az f.2&&(zry B pl f.2&&!zvp B pl.head? f.2)) st (some st)
def zwq{α:Type}(f:α→Option St):List α→Option St
 |[]=>none
 |x::r=>match f x with
  |none=>none
  |some s=>cond (r.all fun y=>match f y with
   |some t=>Wm t s
   |none=>false) (some s) none
def evH(E:Env)(all:List Oper)(base:Nat)(B:List (List Nat))(fs:List (Oper×Nat)):Nat→List (Oper×Nat)→List Nat→St→Option St
 |_n,[],pl,st=>Wj E all base B fs [] pl st
 |0,_::_,_,_=>none
 |n+1,a::az,pl,st=>match Wj E all base B fs (a::az) pl st with
  |none=>none
  |some cs=>zwq (fun x=>match znz E all base x.1 x.2 cs some with
   |some st'=>evH E all base B fs n (rmA x.2 (a::az)) (x.2::pl) st'
   |none=>none) (candsA B (a::az))
def zgU(n:Nat)(ops:List Oper)(B:List (List Nat))(A:List Nat):Bool:=
 ops.zipIdx.all fun(o,i)=>
  ((Vc.edgesOf o).all fun e=>Nat.blt e i)&&
  (match o.dst with
   |some d=>Nat.blt d n&&(match Vc.wrFrom ops 0 d with
    |some j=>Nat.beq j i
    |none=>false)
   |none=>true)&&
  ((o.looksAt ops.toArray).all fun t=>match Vc.wrFrom ops 0 t with
   |some j=>memN j (B[i]?.getD [])||((match ops[j]? with
    |some _=>memN j A
    |none=>false)&&(Nat.beq j i||memN i (B[j]?.getD [])))
   |none=>true)
def zwp(ops:List Oper)(B:List (List Nat)):List Nat:=(List.range ops.length).filter fun i=>match ops[i]? with
 |some o=>isAnch o.op||(match o.dst with
  |some d=>ops.zipIdx.any fun x=>memN d (x.1.looksAt ops.toArray)&&!memN i (B[x.2]?.getD [])&&!Nat.beq x.2 i
  |none=>false)
 |none=>false
def zhu(E:Env)(ops:List Oper)(st:St):Option St:=
 let B:=Vc.beforeOf true ops;let A:=zwp ops B
 match zgU E.n ops B A with
 |true=>evH E ops st.h.length B (ops.zipIdx.filter fun x=>!memN x.2 A) (ops.zipIdx.length) (ops.zipIdx.filter fun x=>memN x.2 A) [] ⟨st.s,wide st.h (rsvAll ops)⟩
 |false=>none
section
variable {E : Env} {ops : List Oper} {A : List Nat} {base : Nat}
def zct(E:Env)(ops:List Oper)(A:List Nat)(base:Nat)(az:List (Oper×Nat))(pl:List Nat)(st cs:St):Prop:=cs.h=st.h∧(∀t,(∀j o,ops[j]? =some o→memN j A=false→(∀p,pl.head? =some p→Anc ops j p)→o.dst≠some t)→get cs.s t=get st.s t)∧(∀j o,ops[j]? =some o→memN j A=false→(∀x∈az,¬Anc ops j x.2)→(∀p∈pl,¬Anc ops p j)→CkF E ops base j o cs)
def GoodT(E:Env)(ops:List Oper)(A:List Nat)(base:Nat):Nat→List (Oper×Nat)→List Nat→St→St→Prop
 |0,az,_,cs,fin=>az=[]∧Eqv cs fin
 |n+1,az,pl,cs,fin=>(az=[]→Eqv cs fin)∧∀x∈candsA (beforeOf true ops) az,∃v D hh,(∀st':St,st'.h=cs.h→(∀t∈x.1.looksAt ops.toArray,get st'.s t=get cs.s t)→(zu ops x.1 st'=some true∧opK E (Wb x.1.op) (nidOf ops base x.2) x.1.op st' (fun v s=>some (v,s))=some (v,⟨(scrub D st').s,hh⟩))∨(zu ops x.1 st'=some false∧v=.tup []∧D=[]∧hh=st'.h))∧∃cs',zct E ops A base (rmA x.2 az) (x.2::pl) ⟨putO x.1.dst v (scrub D cs).s,hh⟩ cs'∧GoodT E ops A base n (rmA x.2 az) (x.2::pl) cs' fin
theorem GoodT.eqv:∀{n:Nat}{az:List (Oper×Nat)}{pl:List Nat}{cs fin fin':St},GoodT E ops A base n az pl cs fin→Eqv fin fin'→GoodT E ops A base n az pl cs fin'
 |0,_,_,_,_,_,h,e=>⟨h.1,h.2.trans e⟩
 |n+1,_,_,_,_,_,h,e=>⟨fun h0=>(h.1 h0).trans e,fun x hx=>by obtain⟨v,D,hh,h1,cs',h2,h3⟩:=h.2 x hx;exact⟨v,D,hh,h1,cs',h2,GoodT.eqv h3 e⟩⟩
theorem GoodT.fin:∀{n:Nat}{pl:List Nat}{cs fin:St},GoodT E ops A base n [] pl cs fin→Eqv cs fin
 |0,_,_,_,h=>h.2
 |_+1,_,_,_,h=>h.1 rfl
theorem GoodT.step{n:Nat}{az:List (Oper×Nat)}{pl:List Nat}{cs fin:St}{o:Oper}{i:Nat}(h:GoodT E ops A base n az pl cs fin)(hx:(o,i)∈candsA (beforeOf true ops) az):
  ∃n' v D hh,(∀st':St,st'.h=cs.h→(∀t∈o.looksAt ops.toArray,get st'.s t=get cs.s t)→
    (zu ops o st'=some true∧opK E (Wb o.op) (nidOf ops base i) o.op st' (fun v s=>some (v,s))=some (v,⟨(scrub D st').s,hh⟩))∨(zu ops o st'=some false∧v=.tup []∧D=[]∧hh=st'.h))∧
   ∃cs',zct E ops A base (rmA i az) (i::pl) ⟨putO o.dst v (scrub D cs).s,hh⟩ cs'∧GoodT E ops A base n' (rmA i az) (i::pl) cs' fin:=by
 cases n with
 |zero=>exfalso;have h1:=h.1;subst h1;cases hx
 |succ n=>obtain⟨v,D,hh,h1,cs',h2,h3⟩:=h.2 (o,i) hx;exact⟨n,v,D,hh,h1,cs',h2,h3⟩
theorem zet{α:Type}:∀(l:List α)(n:Nat),(l.zipIdx n).Pairwise (fun a b=>a.2<b.2)∧∀x∈l.zipIdx n,n≤x.2
 |[],_=>⟨by simp,by simp⟩
 |a::l,n=>by
  obtain⟨h1,h2⟩:=zet l (n+1);rw[List.zipIdx_cons];refine⟨List.pairwise_cons.2 ⟨fun b hb=>h2 b hb,h1⟩,fun x hx=>?_⟩;rcases List.mem_cons.1 hx with rfl|hx
  ·exact Nat.le_refl _
  ·exact Nat.le_of_succ_le (h2 x hx)
theorem ze6:∀{fl:List (Oper×Nat)}{st:St}{T:Type}{k:St→Option T}{r:T},(fl.Pairwise fun a b=>∀d,b.1.dst=some d→d∉a.1.looksAt ops.toArray∧a.1.dst≠some d)→
  (∀f∈fl,∀d,f.1.dst=some d→d∉f.1.looksAt ops.toArray)→znw E ops base fl st k=some r→
  ∃st':St,k st'=some r∧st'.h=st.h∧(∀t,(∀f∈fl,f.1.dst≠some t)→get st'.s t=get st.s t)∧∀f∈fl,CkF E ops base f.2 f.1 st'
 |[],st,_,_,_,_,_,h=>⟨st,h,rfl,fun _ _=>rfl,fun f hf=>by cases hf⟩
 |(o,j)::fl,st,T,k,r,hp,hs,h=>by
  simp only[znw]at h;obtain⟨hp1,hp2⟩:=List.pairwise_cons.1 hp;have hs2:∀f∈fl,∀d,f.1.dst=some d→d∉f.1.looksAt ops.toArray:=fun f hf=>hs f (List.mem_cons_of_mem _ hf)
  split at h
  ·cases h
  ·rename_i hlk;have go:∀{v:AV},znw E ops base fl ⟨putO o.dst v st.s,st.h⟩ k=some r→((zu ops o st=some true∧Loc E (nidOf ops base j) o.op st v [])∨(zu ops o st=some false∧v=.tup []))→
     ∃st':St,k st'=some r∧st'.h=st.h∧(∀t,(∀f∈(o,j)::fl,f.1.dst≠some t)→get st'.s t=get st.s t)∧∀f∈(o,j)::fl,CkF E ops base f.2 f.1 st':=by
    intro v h hc;obtain⟨st',h1,h2,h3,h4⟩:=ze6 hp2 hs2 h;have look:∀t∈o.looksAt ops.toArray,get st'.s t=get st.s t:=fun t ht=>(h3 t fun f hf hd=>(hp1 f hf t hd).1 ht).trans (jv fun hd=>hs (o,j) List.mem_cons_self t hd ht)
    refine⟨st',h1,h2,fun t ht=>(h3 t (fun f hf=>ht f (List.mem_cons_of_mem _ hf))).trans (jv (ht (o,j) List.mem_cons_self)),fun f hf=>?_⟩;rcases List.mem_cons.1 hf with rfl|hf
    ·refine⟨v,fun d hd=>?_,?_⟩
     ·rw[h3 d fun f hf hd2=>(hp1 f hf d hd2).2 hd];show get (putO o.dst v st.s) d=v;rw[show o.dst=some d from hd];show get (put d v st.s) d=v;rw[jb,if_pos rfl]
     ·rcases hc with⟨hw,hl⟩|⟨hw,hv⟩
      ·exact .inl ⟨(zt look).trans hw,hl.move (jO look) (fun _=>h2) (fun _ _ _=>by rw[h2])⟩
      ·exact .inr ⟨(zt look).trans hw,hv⟩
    ·exact h4 f hf
   split at h
   ·rename_i hw;obtain⟨v,u,h1,h2⟩:=QP h;have hu:u=[]:=by
     unfold zhe at hlk;rw[Bool.and_eq_true,Bool.or_eq_true,Ju hw]at hlk;refine h2.2.1 (zX hlk.1) ?_;rcases hlk.2 with h|h
     ·exact .inl (by simpa using h)
     ·exact .inr (ZT h)
    subst hu;exact go h1 (.inl ⟨hw,h2⟩)
   ·rename_i hw;exact go h (.inr ⟨hw,rfl⟩)
   ·cases h
def zr7(ops:List Oper)(A:List Nat):Prop:=(∀(i:Nat)(o:Oper)(t j:Nat)(oj:Oper),ops[i]? =some o→t∈o.looksAt ops.toArray→ops[j]? =some oj→oj.dst=some t→(Anc ops i j∧j<i)∨memN j A=true)∧∀(i j:Nat)(oi oj:Oper)(d:Nat),ops[i]? =some oi→ops[j]? =some oj→oi.dst=some d→oj.dst=some d→i=j
theorem YF{fs az:List (Oper×Nat)}{pl:List Nat}{st s':St}(hL:zr7 ops A)(hf:fs=ops.zipIdx.filter fun x=>!memN x.2 A)(h:Wj E ops base (beforeOf true ops) fs az pl st=some s'):zct E ops A base az pl st s':=by
 unfold Wj at h;have mem:∀{p:Oper×Nat→Bool}{f:Oper×Nat},f∈fs.filter p→ops[f.2]? =some f.1∧memN f.2 A=false∧p f=true:=fun{p f} hf1=>by rw[List.mem_filter]at hf1;obtain⟨m1,m2⟩:=hf1;rw[hf,List.mem_filter]at m1;exact⟨List.mem_zipIdx_iff_getElem?.1 m1.1,by simpa using m1.2,m2⟩
 have pw:∀{p:Oper×Nat→Bool},(fs.filter p).Pairwise fun a b=>∀d,b.1.dst=some d→d∉a.1.looksAt ops.toArray∧a.1.dst≠some d:=fun{p}=>by
  have h0:(fs.filter p).Pairwise fun a b=>a.2<b.2:=by rw[hf];exact ((zet ops 0).1.filter _).filter _
  refine List.Pairwise.imp_of_mem (fun{a b} ha hb hlt d hd=>?_) h0;obtain⟨a1,_,_⟩:=mem ha;obtain⟨b1,b2,_⟩:=mem hb;refine⟨fun ht=>?_,fun ha2=>?_⟩
  ·rcases hL.1 a.2 a.1 d b.2 b.1 a1 ht b1 hd with⟨_,h⟩|h
   ·omega
   ·rw[b2]at h;cases h
  ·have:=hL.2 a.2 b.2 a.1 b.1 d a1 b1 ha2 hd;omega
 obtain⟨cs,h1,h2,h3,h6⟩:=ze6 pw (fun f hf1 d hd ht=>by
  obtain⟨a1,a2,_⟩:=mem hf1;rcases hL.1 f.2 f.1 d f.2 f.1 a1 ht a1 hd with⟨_,h⟩|h
  ·omega
  ·rw[a2]at h;cases h) h
 obtain⟨h4,h5⟩:=WX h1;cases h4;refine⟨h2,fun t ht=>h3 t (fun f hf1=>?_),fun j o hj ha hx hp=>?_⟩
 ·obtain⟨m1,m2,m3⟩:=mem hf1;rw[Bool.and_eq_true]at m3;refine ht f.2 f.1 m1 m2 fun p hp=>?_
  have m4:=m3.2;rw[hp]at m4;exact zI (zy.1 m4)
 ·have hin:(o,j)∈fs:=by rw[hf,List.mem_filter];exact⟨List.mem_zipIdx_iff_getElem?.2 hj,by simp[ha]⟩
  have hup:zjF (beforeOf true ops) az j=true:=by
   unfold zjF;rw[List.all_eq_true];intro x hxm;cases hb:memN x.2 ((beforeOf true ops)[j]?.getD [])with
   |false=>rfl
   |true=>exact absurd (zI (zy.1 hb)) (hx x hxm)
  have hfr:zry (beforeOf true ops) pl j=true:=by
   unfold zry;rw[List.all_eq_true];intro p hpm;cases hb:memN j ((beforeOf true ops)[p]?.getD [])with
   |false=>rfl
   |true=>exact absurd (zI (zy.1 hb)) (hp p hpm)
  cases hn:zvp (beforeOf true ops) pl.head? j with
  |true=>exact h6 (o,j) (List.mem_filter.2 ⟨hin,by rw[hup,hn];rfl⟩)
  |false=>exact h5 (o,j) (List.mem_filter.2 ⟨hin,by rw[hup,hfr,hn];rfl⟩)
theorem zlh{α:Type}{f:α→Option St}{l:List α}{s:St}(h:zwq f l=some s):∀x∈l,∃t,f x=some t∧Eqv t s:=by
 cases l with
 |nil=>cases h
 |cons a r=>
  have h:(match f a with
   |none=>none
   |some s=>cond (r.all fun y=>match f y with
    |some t=>Wm t s
    |none=>false) (some s) none)=some s:=h
  cases hs:f a with
  |none=>rw[hs]at h;cases h
  |some s1=>
   rw[hs]at h;have h:cond (r.all fun y=>match f y with
    |some t=>Wm t s1
    |none=>false) (some s1) none=some s:=h
   cases hb:(r.all fun y=>match f y with
    |some t=>Wm t s1
    |none=>false)with
   |false=>rw[hb]at h;cases h
   |true=>
    rw[hb]at h;cases h;intro x hx;rcases List.mem_cons.1 hx with rfl|hx
    ·exact⟨s,hs,Eqv.refl _⟩
    ·have h1:=List.all_eq_true.1 hb x hx;split at h1
     ·rename_i t ht;exact⟨t,ht,zm4 h1⟩
     ·cases h1
theorem zrC{fs:List (Oper×Nat)}(hL:zr7 ops A)(hf:fs=ops.zipIdx.filter fun x=>!memN x.2 A):∀{n:Nat}{az:List (Oper×Nat)}{pl:List Nat}{st fin:St},evH E ops base (beforeOf true ops) fs n az pl st=some fin→
  ∃cs,zct E ops A base az pl st cs∧GoodT E ops A base n az pl cs fin:=by
 intro n;induction n with
 |zero=>
  intro az pl st fin h;cases az with
  |nil=>
   have h:Wj E ops base (beforeOf true ops) fs [] pl st=some fin:=by unfold evH at h;exact h
   exact⟨fin,YF hL hf h,rfl,Eqv.refl _⟩
  |cons a az=>unfold evH at h;cases h
 |succ n ih=>
  intro az pl st fin h;cases az with
  |nil=>
   have h:Wj E ops base (beforeOf true ops) fs [] pl st=some fin:=by unfold evH at h;exact h
   exact⟨fin,YF hL hf h,fun _=>Eqv.refl _,fun x hx=>by cases hx⟩
  |cons a az=>
   unfold evH at h;split at h
   ·cases h
   ·rename_i cs hcs;refine⟨cs,YF hL hf hcs,fun h0=>(by cases h0),fun x hx=>?_⟩;obtain⟨t,h1,h2⟩:=zlh h x hx;split at h1
    ·rename_i st' hst;obtain⟨v,D,hh,h3,h4⟩:=ze8 hst;cases h3;obtain⟨cs',h5,h6⟩:=ih h1;exact⟨v,D,hh,h4,cs',h5,h6.eqv h2⟩
    ·cases h1
variable {GP : Ro → Prop} {c : Base}
structure AtH(E:Env)(GP:Ro→Prop)(c:Base)(ops:List Oper)(A:List Nat)(base:Nat)(az:List (Oper×Nat))(pl:List Nat)(fin cs:St)(listed:Array Bool)(s:St)(R:Ro)(G:List Res)(a:Act)(w:World):Prop where
 sz:listed.size=ops.length
 cl:∀i,listed.getD i false=true→∀o,ops[i]? =some o→∀e∈edgesOf o,listed.getD e false=true
 fit:Fit c E.n R G s a w
 gp:GP R
 len:s.h.length=base+rsvAll ops
 free:∀i o,ops[i]? =some o→listed.getD i false=false→FreeR s.h (nidOf ops base i) (rsv o)
 hp:s.h=cs.h
 sl:∀t,(∀j o,ops[j]? =some o→o.dst=some t→memN j A=false→listed.getD j false=true)→get s.s t=get cs.s t
 an:∀i o,ops[i]? =some o→memN i A=true→((o,i)∈az↔listed.getD i false=false)
 az2:∀f∈az,ops[f.2]? =some f.1∧memN f.2 A=true
 pal:∀p∈pl,listed.getD p false=true
 ck:∀j o,ops[j]? =some o→memN j A=false→(∀x∈az,¬Anc ops j x.2)→(∀p∈pl,¬Anc ops p j)→CkF E ops base j o cs
 kont:∃n,GoodT E ops A base n az pl cs fin
theorem zx9(hΓ:∀C∈E.Γ,SoundC E.P GP C)(hgl:∀R,GP R→GlobOK E.gl R)(hst:Stays GP){ops:List Oper}{A:List Nat}{T:Type}{r:T}{k:St→Option T}{fin:St}(hfin:k fin=some r){Q:Exit→Act→World→Prop}{base:Nat}(hS:StatOk E.n 0 ops)(hcm:c.m≤base)
  (hlook:∀i o t j oj,ops[i]? =some o→t∈o.looksAt ops.toArray→ops[j]? =some oj→oj.dst=some t→Anc ops i j∨memN j A=true)
  (hK:∀st' R' G' a' w',k st'=some r→Fit c E.n R' G' st' a' w'→GP R'→Q .normal a' w'):
  ∀(fuel:Nat)(az:List (Oper×Nat))(pl:List Nat)(cs:St)(listed:Array Bool)(s:St)(R:Ro)(G:List Res)(a:Act)(w:World),AtH E GP c ops A base az pl fin cs listed s R G a w→(zaE ops listed).length≤fuel→wpAny E.P .any ops.toArray Q fuel listed a w:=by
 have hE:∀(j k:Nat)(oj ok:Oper)(d:Nat),ops[j]? =some oj→ops[k]? =some ok→oj.dst=some d→ok.dst=some d→j=k:=by intro j k oj ok d hj hk hd hd';have h1:=(hS.lt j oj d hj hd).2;have h2:=(hS.lt k ok d hk hd').2;rw[h1]at h2;exact Option.some.inj h2
 have hend:∀(az:List (Oper×Nat))(pl:List Nat)(cs:St)(listed:Array Bool)(s:St)(R:Ro)(G:List Res)(a:Act)(w:World),AtH E GP c ops A base az pl fin cs listed s R G a w→Region.ready .any ops.toArray listed=[]→Q .normal a w:=by
  intro az pl cs listed s R G a w I hr;have hall:∀j,j<ops.length→listed.getD j false=true:=by
   intro j;induction j using Nat.strongRecOn with
   |_ j ih=>
    intro hj;cases hb:listed.getD j false with
    |true=>rfl
    |false=>
     exfalso;have:j∈Region.ready .any ops.toArray listed:=by
      rw[mem_ready];refine⟨?_,ops[j],by simp[hj],fun e he hbind=>?_⟩
      ·have hlt:j<listed.size:=by rw[I.sz];exact hj
       simp[hlt]at hb⊢;exact hb
      ·have hlt:=hS.edge j ops[j] (by simp[hj]) e.on (by
        unfold edgesOf;rw[List.mem_filterMap];exact⟨e,by simpa using he,by simp[hbind]⟩)
       exact ih e.on hlt (by omega)
     rw[hr]at this;cases this
  have has:az=[]:=by
   cases az with
   |nil=>rfl
   |cons x l=>exfalso;obtain⟨h1,h2⟩:=I.az2 x List.mem_cons_self;have h3:=(I.an x.2 x.1 h1 h2).1 List.mem_cons_self;rw[hall x.2 (List.getElem?_eq_some_iff.1 h1).1]at h3;cases h3
  obtain⟨m,hk⟩:=I.kont;subst has;have he:Eqv cs fin:=hk.fin;have hsl:∀t,get s.s t=get fin.s t:=fun t=>(I.sl t fun j o hj _ _=>hall j (List.getElem?_eq_some_iff.1 hj).1).trans (he.1 t)
  have hhp:s.h=fin.h:=I.hp.trans he.2;have F':Fit c E.n R G fin a w:=⟨by rw[←hhp];exact I.fit.wrel,by rw[←hhp];exact I.fit.since,fun t=>by rw[←hsl t,←hhp];exact I.fit.slots t,I.fit.defers,I.fit.size⟩
  exact hK fin R G a w hfin F' I.gp
 intro fuel;induction fuel with
 |zero=>
  intro az pl cs listed s R G a w I hfu;have hr:Region.ready .any ops.toArray listed=[]:=by
   rcases hc:Region.ready .any ops.toArray listed with _|⟨i,l⟩
   ·rfl
   ·exfalso;have hi:i∈Region.ready .any ops.toArray listed:=by rw[hc];simp
    rw[mem_ready]at hi;obtain⟨hun,o,ho,_⟩:=hi;have ho':ops[i]? =some o:=by simpa using ho
    have hilt:i<ops.length:=(List.getElem?_eq_some_iff.1 ho').1;have hil:i<listed.size:=by rw[I.sz];exact hilt
    have hSi:listed.getD i false=false:=by simp[hil]at hun⊢;exact hun
    have:i∈zaE ops listed:=by unfold zaE;rw[List.mem_filter];exact⟨by simpa using hilt,by rw[hSi];rfl⟩
    rw[List.length_eq_zero_iff.1 (by omega:(zaE ops listed).length=0)]at this;cases this
  exact⟨hr,hend az pl cs listed s R G a w I hr⟩
 |succ fuel ih=>
  intro az pl cs listed s R G a w I hfu;refine⟨fun hr=>hend az pl cs listed s R G a w I hr,fun i hi=>?_⟩;rw[mem_ready]at hi;obtain⟨hun,o,ho,hall⟩:=hi;have ho':ops[i]? =some o:=by simpa using ho
  have hilt:i<ops.length:=(List.getElem?_eq_some_iff.1 ho').1;have hil:i<listed.size:=by rw[I.sz];exact hilt
  have hSi:listed.getD i false=false:=by simp[hil]at hun⊢;exact hun
  have hdir:∀e∈edgesOf o,listed.getD e false=true:=by
   intro e he;unfold edgesOf at he;rw[List.mem_filterMap]at he;obtain⟨x,hx,hxe⟩:=he;split at hxe
   ·rename_i hb;cases hxe;exact hall x (by simpa using hx) hb
   ·cases hxe
  have hanc:∀k j,Anc ops k j→listed.getD k false=true→listed.getD j false=true:=by
   intro k j h;induction h with
   |one h he=>intro hk;exact I.cl _ hk _ h _ he
   |more h he _ ih=>intro hk;exact ih (I.cl _ hk _ h _ he)
  have hanci:∀j,Anc ops i j→listed.getD j false=true:=by
   intro j h;cases h with
   |one h he=>rw[ho']at h;cases h;exact hdir _ he
   |more h he h'=>rw[ho']at h;cases h;exact hanc _ _ h' (hdir _ he)
  have hset:∀j,(listed.setIfInBounds i true).getD j false=(listed.getD j false||Nat.beq j i):=by
   intro j;by_cases hji:j=i
   ·subst hji;simp[hil]
   ·have hne:¬i=j:=fun h=>hji h.symm
    have hb:Nat.beq j i=false:=by
     cases hb:Nat.beq j i with
     |false=>rfl
     |true=>exact absurd (Nat.eq_of_beq_eq_true hb) hji
    simp[hb,Array.getElem?_setIfInBounds_ne hne]
  have hset2:∀j,j≠i→(listed.setIfInBounds i true).getD j false=listed.getD j false:=by
   intro j hji;have hb:Nat.beq j i=false:=by
    cases hb:Nat.beq j i with
    |false=>rfl
    |true=>exact absurd (Nat.eq_of_beq_eq_true hb) hji
   rw[hset,hb,Bool.or_false]
  have hseti:(listed.setIfInBounds i true).getD i false=true:=by rw[hset,Nat.beq_refl,Bool.or_true]
  have hfu':(zaE ops (listed.setIfInBounds i true)).length≤fuel:=by
   obtain⟨l1,l2,g1,g2,_⟩:=qe (p:=fun j=>!listed.getD j false) (q:=fun j=>!(listed.setIfInBounds i true).getD j false) (l:=List.range ops.length) List.pairwise_lt_range (by simpa using hilt) (by simp only[hSi];rfl)
    (fun j=>by rw[hset];cases listed.getD j false<;>cases Nat.beq j i<;>rfl)
   unfold zaE at hfu⊢;rw[g1]at hfu;rw[g2];simp at hfu⊢;omega
  have hcl':∀j,(listed.setIfInBounds i true).getD j false=true→∀oj,ops[j]? =some oj→∀e∈edgesOf oj,(listed.setIfInBounds i true).getD e false=true:=by
   intro j hj oj hoj e he;rw[hset]at hj⊢;simp only[Bool.or_eq_true]at hj⊢;rcases hj with hj|hj
   ·exact .inl (I.cl j hj oj hoj e he)
   ·have:=Nat.eq_of_beq_eq_true hj;subst this;rw[ho']at hoj;cases hoj;exact .inl (hdir e he)
  have hfree':∀{h':Heap},ZO (nidOf ops base i) (rsv o) s.h h'→∀j oj,ops[j]? =some oj→(listed.setIfInBounds i true).getD j false=false→FreeR h' (nidOf ops base j) (rsv oj):=by
   intro h' hno j oj hoj hj x hx1 hx2;rw[hset]at hj;simp only[Bool.or_eq_false_iff]at hj;have hne:j≠i:=fun e=>by rw[e]at hj;simp at hj
   refine hno x (fun hh=>?_) (I.free j oj hoj hj.1 x hx1 hx2);rcases Nat.lt_or_gt_of_ne hne with hlt|hlt
   ·have:=jl (base:=base) hoj ho' hlt;omega
   ·have:=jl (base:=base) ho' hoj hlt;omega
  have hops:∀t∈o.looksAt ops.toArray,get s.s t=get cs.s t:=fun t ht=>I.sl t fun j oj hj hd hf=>by
   rcases hlook i o t j oj ho' ht hj hd with h|h
   ·exact hanci j h
   ·rw[hf]at h;cases h
  have hdst:VM E.n o.dst=true:=by
   cases hd:o.dst with
   |none=>rfl
   |some d=>exact (hS.lt i o d ho' hd).1
  unfold wpOp;have hoA:ops.toArray[i]? =some o:=by simpa using ho'
  simp only[hoA];cases ha:memN i A with
  |false=>
   obtain⟨v,hv,hc⟩:=I.ck i o ho' ha (fun x hx hA=>by
    obtain⟨h1,h2⟩:=I.az2 x hx;have h3:=(I.an x.2 x.1 h1 h2).1 hx;rw[hanci x.2 hA]at h3;cases h3) (fun p hp hA=>by
    have:=hanc p i hA (I.pal p hp);rw[hSi]at this;cases this)
   have next:∀(R':Ro)(G':List Res)(a':Act)(w':World),Fit c E.n R' G' ⟨putO o.dst v s.s,s.h⟩ a' w'→GP R'→wpAny E.P .any ops.toArray Q fuel (listed.setIfInBounds i true) a' w':=by
    intro R' G' a' w' F' hGP';refine ih az pl cs (listed.setIfInBounds i true) ⟨putO o.dst v s.s,s.h⟩ R' G' a' w' ⟨by simpa using I.sz,hcl',F',hGP',I.len,hfree' (fun _ _ h=>h),I.hp,fun t ht=>?_,fun j oj hj haj=>?_,I.az2,fun p hp=>?_,I.ck,I.kont⟩ hfu'
    ·by_cases hd:o.dst=some t
     ·show get (putO o.dst v s.s) t=_;rw[hd];show get (put t v s.s) t=_;rw[jb,if_pos rfl,hv t hd]
     ·show get (putO o.dst v s.s) t=_;rw[jv hd];refine I.sl t fun j oj hj hdj hfj=>?_
      have:=ht j oj hj hdj hfj;rwa [hset2 j (fun e=>by subst e;rw[ho']at hj;cases hj;exact hd hdj)]at this
    ·rw[hset2 j (fun e=>by subst e;rw[ho']at hj;cases hj;rw[ha]at haj;cases haj)];exact I.an j oj hj haj
    ·rw[hset,I.pal p hp];rfl
   rcases hc with⟨hw,hloc⟩|⟨hw,rfl⟩
   ·have hw':=(zt hops).trans hw;have hloc':Loc E (nidOf ops base i) o.op s v []:=hloc.move (jO hops) (fun _=>I.hp) (fun _ _ _=>by rw[I.hp]);rw[jB I.fit hS hw',if_pos rfl];have heff:=hloc'.eff (AV×St) (fun v s=>some (v,s));refine .inl (Oper.wp_mono ?_ (Z9 hΓ hgl I.fit I.gp (show c.m≤nidOf ops base i by unfold nidOf;omega) (I.free i o ho' hSi) (by rw[I.len];exact yT ho') heff));rintro a' w' ⟨v',st',R',G',V,h1,rfl,h2,h3,h4,h5,h6⟩;simp only[Option.some.injEq,Prod.mk.injEq]at h1;obtain⟨rfl,rfl⟩:=h1;exact next R' G' _ w' (h2.put hdst h3) (hst R R' h6 I.gp)
   ·have hw':=(zt hops).trans hw;rw[jB I.fit hS hw'];simp only[Bool.false_eq_true,if_false];exact next R G _ w (I.fit.put (v:=.tup []) (V:=undef) hdst ⟨[],rfl,rfl⟩) I.gp
  |true=>
   have hmem:=(I.an i o ho' ha).2 hSi;have hcand:(o,i)∈candsA (beforeOf true ops) az:=by
    unfold candsA;rw[List.mem_filter];refine⟨hmem,List.all_eq_true.2 fun y hy=>?_⟩;show(!memN y.2 ((beforeOf true ops)[i]?.getD []))=true;cases hb:memN y.2 ((beforeOf true ops)[i]?.getD [])with
    |false=>rfl
    |true=>exfalso;have h1:=hanci y.2 (zI (zy.1 hb));obtain⟨h2,h3⟩:=I.az2 y hy;rw[(I.an y.2 y.1 h2 h3).1 hy]at h1;cases h1
   obtain⟨m,hk⟩:=I.kont;obtain⟨m',v,D,hh,heffs,cs',⟨q1,q2,q3⟩,q4⟩:=hk.step hcand;have next:∀(R':Ro)(G':List Res)(a':Act)(w':World),Fit c E.n R' G' ⟨putO o.dst v (scrub D s).s,hh⟩ a' w'→GP R'→ZO (nidOf ops base i) (rsv o) s.h hh→hh.length=s.h.length→wpAny E.P .any ops.toArray Q fuel (listed.setIfInBounds i true) a' w':=by
    intro R' G' a' w' F' hGP' hno hlen';refine ih (rmA i az) (i::pl) cs' (listed.setIfInBounds i true) ⟨putO o.dst v (scrub D s).s,hh⟩ R' G' a' w' ⟨by simpa using I.sz,hcl',F',hGP',hlen'.trans I.len,hfree' hno,q1.symm,fun t ht=>?_,fun j oj hj haj=>?_,fun f hf=>I.az2 f (zhc.1 hf).1,fun p hp=>?_,q3,⟨m',q4⟩⟩ hfu'
    ·rw[q2 t fun j oj hj hfj hpj hdj=>?_]
     ·by_cases hd:o.dst=some t
      ·show get (putO o.dst v (scrub D s).s) t=get (putO o.dst v (scrub D cs).s) t;rw[hd];show get (put t v _) t=get (put t v _) t;rw[jb,jb,if_pos rfl,if_pos rfl]
      ·show get (putO o.dst v (scrub D s).s) t=get (putO o.dst v (scrub D cs).s) t;rw[jv hd,jv hd];refine zdp D (I.sl t fun j oj hj hdj hfj=>?_);have:=ht j oj hj hdj hfj;rwa [hset2 j (fun e=>by subst e;rw[ho']at hj;cases hj;exact hd hdj)]at this
     ·have h1:=ht j oj hj hdj hfj;have hji:j≠i:=fun e=>by subst e;rw[ho']at hj;cases hj;rw[ha]at hfj;cases hfj
      rw[hset2 j hji]at h1;have h2:=hanc j i (hpj i rfl) h1;rw[hSi]at h2;cases h2
    ·by_cases hji:j=i
     ·subst hji;rw[ho']at hj;cases hj;rw[hseti];exact⟨fun h=>absurd rfl (zhc.1 h).2,fun h=>by cases h⟩
     ·rw[hset2 j hji,←I.an j oj hj haj,zhc];exact⟨fun h=>h.1,fun h=>⟨h,hji⟩⟩
    ·rcases List.mem_cons.1 hp with rfl|hp
     ·exact hseti
     ·rw[hset,I.pal p hp];rfl
   rcases heffs s I.hp hops with⟨hw,hop⟩|⟨hw,rfl,rfl,rfl⟩
   ·rw[jB I.fit hS hw,if_pos rfl];refine .inl (Oper.wp_mono ?_ (Z9 hΓ hgl I.fit I.gp (show c.m≤nidOf ops base i by unfold nidOf;omega) (I.free i o ho' hSi) (by rw[I.len];exact yT ho') hop));rintro a' w' ⟨v',st',R',G',V,h1,rfl,h2,h3,h4,h5,h6⟩;simp only[Option.some.injEq,Prod.mk.injEq]at h1;obtain⟨rfl,rfl⟩:=h1;exact next R' G' _ w' (h2.put hdst h3) (hst R R' h6 I.gp) h4 h5
   ·rw[jB I.fit hS hw];simp only[Bool.false_eq_true,if_false];exact next R G _ w (I.fit.put (v:=.tup []) (V:=undef) hdst ⟨[],rfl,rfl⟩) I.gp (fun _ _ h=>h) rfl
theorem zkp{n:Nat}{ops:List Oper}{A:List Nat}(h:zgU n ops (beforeOf true ops) A=true):StatOk n 0 ops∧
  (∀i o t j oj,ops[i]? =some o→t∈o.looksAt ops.toArray→ops[j]? =some oj→oj.dst=some t→Anc ops i j∨memN j A=true):=by
 unfold zgU at h;have hlt:∀(i:Nat)(o:Oper)(d:Nat),ops[i]? =some o→o.dst=some d→Nat.blt d n=true∧wrFrom ops 0 d=some i:=by
  intro i o d hi hd;have h1:=jG h hi;simp only[Bool.and_eq_true]at h1;obtain⟨⟨h1,h2⟩,h3⟩:=h1;rw[hd]at h2;simp only[Bool.and_eq_true]at h2;obtain⟨h4,h5⟩:=h2;refine⟨h4,?_⟩;split at h5
  ·rename_i j hj;rw[hj,Nat.eq_of_beq_eq_true h5]
  ·cases h5
 refine⟨⟨fun i o hi e he=>?_,hlt,fun _ _ _ _ _ _ _=>.inr (Nat.zero_le _)⟩,fun i o t j oj hi ht hj hd=>?_⟩
 ·have h1:=jG h hi;simp only[Bool.and_eq_true]at h1;have:=List.all_eq_true.1 h1.1.1 e he;have:e+1≤i:=by simpa[Nat.blt]using this
  omega
 ·have h1:=jG h hi;simp only[Bool.and_eq_true]at h1;have:=List.all_eq_true.1 h1.2 t ht;rw[(hlt j oj t hj hd).2]at this;simp only[hj,Bool.or_eq_true,Bool.and_eq_true]at this;rcases this with this|⟨this,_⟩
  ·exact .inl (zI (zy.1 this))
  ·exact .inr this
theorem zkH(hm:E.P.follows .mixedOrders=true)(hΓ:∀C∈E.Γ,SoundC E.P GP C)(hgl:∀R,GP R→GlobOK E.gl R)(hst:Stays GP){ops:List Oper}{T:Type}{r:T}{k:St→Option T}{Q:Exit→Act→World→Prop}{st fin:St}{R:Ro}{G:List Res}
  {a:Act} {w:World} (F:Fit c E.n R G st a w) (hGP:GP R) (h:zhu E ops st=some fin) (hfin:k fin=some r) (hK:∀st' R' G' a' w',k st'=some r→Fit c E.n R' G' st' a' w'→GP R'→Q .normal a' w') {id:Nat}:
  (Code.region id ops.toArray true).wp E.P Q a w:=by
 unfold zhu at h;simp only[]at h;split at h
 ·rename_i hstat;obtain⟨hS,hlook⟩:=zkp hstat;obtain⟨G0,F0,hfree,hlen⟩:=F.wide (rsvAll ops);have hcm:c.m≤st.h.length:=F.since.many;have hL:zr7 ops (zwp ops (beforeOf true ops)):=⟨fun i o t j oj hi ht hj hd=>(hlook i o t j oj hi ht hj hd).imp (fun h=>⟨h,h.lt hS.edge⟩) (fun h=>h),fun i j oi oj d hi hj hd hd'=>by have h1:=(hS.lt i oi d hi hd).2;have h2:=(hS.lt j oj d hj hd').2;rw[h1]at h2;exact Option.some.inj h2⟩
  obtain⟨cs,⟨q1,q2,q3⟩,q4⟩:=zrC hL rfl h;have hf:∀j,(Array.replicate ops.toArray.size false).getD j false=false:=by
   intro j;by_cases hlt:j<ops.length
   ·simp[hlt]
   ·simp[hlt]
  refine wp_region_any hm ?_;refine zx9 hΓ hgl hst hfin hS hcm hlook hK ops.toArray.size _ [] cs _ ⟨st.s,wide st.h (rsvAll ops)⟩ R G0 a _
   ⟨by simp,fun i hi=>?_,F0.keep (Keeps.drawn w _),hGP,hlen,fun i o hi _ x hx1 hx2=>hfree x (by unfold nidOf at hx1;omega),q1.symm,fun t ht=>?_,fun i o hi ha=>?_,fun f hf1=>?_,fun p hp=>(by cases hp),q3,⟨_,q4⟩⟩ ?_
  ·rw[hf]at hi;cases hi
  ·rw[q2 t fun j o hj hfj _ hd=>?_];have:=ht j o hj hd hfj;rw[hf]at this;cases this
  ·rw[hf,List.mem_filter];exact⟨fun _=>rfl,fun _=>⟨List.mem_zipIdx_iff_getElem?.2 hi,ha⟩⟩
  ·rw[List.mem_filter]at hf1;exact⟨List.mem_zipIdx_iff_getElem?.1 hf1.1,hf1.2⟩
  ·have h1:=List.length_filter_le (fun j=>!(Array.replicate ops.toArray.size false).getD j false) (List.range ops.length);have h2:(List.range ops.length).length=ops.toArray.size:=by simp
   exact Nat.le_trans h1 (Nat.le_of_eq h2)
 ·cases h
end
end Go.Am
end
section
namespace Go.Am
open Go Go.RowKit Go.Vc
def zeR(m:Nat)(st:St):Option St:=
 let lv:=st.s.map Prod.fst
 match zvo m lv st with
 |some (vs,h)=>some ⟨zfp lv vs,h⟩
 |none=>none
def VI{R:Type}(E:Env)(ops:List Oper)(st:St)(k:St→Option R):Option R:=match VJ E ops st some with
 |some s=>k s
 |none=>match zhu E ops st with
  |some s=>k s
  |none=>none
def zxz(n:Nat)(ops:List Oper):Bool:=zaZ n ops (Vc.beforeOf true ops)||(zgV n ops||(Kh n 2 ops&&Xw 2 ops||(Kh n 1 ops&&Xw 1 ops||zh8 (zcp ops 0 ops.length) ops)))
def zdu{R:Type}(E:Env)(ops:List Oper)(st:St)(k:St→Option R):Option R:=match E.N with
 |0=>VI E ops st k
 |_+1=>match zxz E.n ops with
  |true=>VJ E ops st k
  |false=>VI E ops st k
def evR{R:Type}(E:Env)(m q:Nat):Code→St→Cont R→Option R
 |.skip,st,K=>K.normal st
 |.label _,st,K=>K.normal st
 |.ret,st,K=>K.ret st
 |.exit i,st,K=>K.exits i st
 |.region _ ops draw,st,K=>match draw with
  |false=>zdt E ops.toList st K.normal
  |true=>zdu E ops.toList st K.normal
 |.seq a b,st,K=>evR E m q a st ⟨fun st'=>evR E m q b st' K,K.exits,K.ret⟩
 |.cond c a b,st,K=>match opnd E.gl st.s c with
  |.bool x=>cond x (evR E m q a st K) (evR E m q b st K)
  |_=>none
 |.block i a,st,K=>evR E m q a st (J9 i K)
 |.scope a,st,K=>evR E m q a st K
 |.loop a,st,K=>qX (fun again st'=>evR E m q a st' ⟨fun st''=>match zeR m st'' with
  |some s=>again s
  |none=>none,K.exits,K.ret⟩) q st
 |_,_,_=>none
def zm9(P:Program)(b:Bool)(m:Nat)(results:List ResultVar)(st:St):Option Out:=cond b (zvC P m results st) (fin P m results st)
section
variable {P : Program} {c : Base} {n : Nat} {R : Ro} {G : List Res} {st : St} {a : Act} {w : World}
theorem zvg(F:Fit c n R G st a w){fn:Func}{b:Bool}{o:Out}(h:zm9 P b c.m fn.results.toList st=some o):
  ∃V R' G',(results fn a.tmps).run P w=.ok V w∧WRel R' G' o.h w∧Since c R' G' o.h w∧Rel (look G' o.h) R' o.v V:=by
 cases b with
 |true=>obtain⟨V,G',h1,h2,h3,h4⟩:=zmz F h;exact⟨V,R,G',h1,h2,h3,h4⟩
 |false=>obtain⟨V,R',G',h1,h2,h3,h4,_⟩:=zrA F h;exact⟨V,R',G',h1,h2,h3,h4⟩
end
section
variable {E : Env} {GP : Ro → Prop} {T : Type} {r : T} {c : Base} {q : Nat}
theorem zq9{R:Ro}{G:List Res}{st st':St}{a:Act}{w:World}{n:Nat}(F:Fit c n R G st a w)(h:zeR c.m st=some st'):∃G',Fit c n R G' st' a w:=by
 unfold zeR at h;simp only[]at h;split at h
 ·rename_i vs hh hn;cases h;exact zgZ F hn
 ·cases h
theorem zap(hm:E.P.follows .mixedOrders=true)(hΓ:∀C∈E.Γ,SoundC E.P GP C)(hgl:∀R,GP R→GlobOK E.gl R)(hst:Stays GP){ops:List Oper}{k:St→Option T}{Q:Exit→Act→World→Prop}{st:St}{R:Ro}{G:List Res}
  {a:Act} {w:World} (F:Fit c E.n R G st a w) (hGP:GP R) (h:VI E ops st k=some r) (hK:∀st' R' G' a' w',k st'=some r→Fit c E.n R' G' st' a' w'→GP R'→Q .normal a' w') {id:Nat}:
  (Code.region id ops.toArray true).wp E.P Q a w:=by
 unfold VI at h;split at h
 ·rename_i s hs;exact XN hm hΓ hgl hst F hGP hs fun st' R' G' a' w' h1 h2 h3=>by cases h1;exact hK _ R' G' a' w' h h2 h3
 ·split at h
  ·rename_i s hs;exact zkH hm hΓ hgl hst F hGP hs h hK
  ·cases h
theorem ziZ(hm:E.P.follows .mixedOrders=true)(hΓ:∀C∈E.Γ,SoundC E.P GP C)(hgl:∀R,GP R→GlobOK E.gl R)(hst:Stays GP){ops:List Oper}{k:St→Option T}{Q:Exit→Act→World→Prop}{st:St}{R:Ro}{G:List Res}
  {a:Act} {w:World} (F:Fit c E.n R G st a w) (hGP:GP R) (h:zdu E ops st k=some r) (hK:∀st' R' G' a' w',k st'=some r→Fit c E.n R' G' st' a' w'→GP R'→Q .normal a' w') {id:Nat}:
  (Code.region id ops.toArray true).wp E.P Q a w:=by
 unfold zdu at h;split at h
 ·exact zap hm hΓ hgl hst F hGP h hK
 ·split at h
  ·exact XN hm hΓ hgl hst F hGP h hK
  ·exact zap hm hΓ hgl hst F hGP h hK
theorem zxi(hmx:E.P.follows .mixedOrders=true)(hΓ:∀C∈E.Γ,SoundC E.P GP C)(hgl:∀R,GP R→GlobOK E.gl R)(hst:Stays GP):
  ∀(code:Code)(K:Cont T)(Q:Exit→Act→World→Prop)(st:St)(R:Ro)(G:List Res)(a:Act)(w:World),
   KOk c E.n GP r K Q→evR E c.m q code st K=some r→Fit c E.n R G st a w→GP R→code.wp E.P Q a w:=by
 intro code;induction code with
 |skip=>intro K Q st R G a w hK h F hGP;exact wp_skip (hK.normal st R G a w h F hGP)
 |label l=>intro K Q st R G a w hK h F hGP;exact wp_label (hK.normal st R G a w h F hGP)
 |ret=>intro K Q st R G a w hK h F hGP;exact wp_ret (hK.ret st R G a w h F hGP)
 |exit i=>intro K Q st R G a w hK h F hGP;exact wp_exit (hK.exits i st R G a w h F hGP)
 |region id ops draw=>
  intro K Q st R G a w hK h F hGP;simp only[evR]at h;split at h
  ·have:=zao hΓ hgl hst F hGP h (Q:=Q) (fun st' R' G' a' w' h1 h2 h3=>hK.normal st' R' G' a' w' h1 h2 h3) (id:=id);simpa using this
  ·have:=ziZ hmx hΓ hgl hst F hGP h (Q:=Q) (fun st' R' G' a' w' h1 h2 h3=>hK.normal st' R' G' a' w' h1 h2 h3) (id:=id);simpa using this
 |scope body ih=>intro K Q st R G a w hK h F hGP;simp only[evR]at h;exact wp_scope_straight (ih K (Exit.noGoto Q) st R G a w ⟨hK.normal,hK.exits,hK.ret⟩ h F hGP)
 |goto l=>intro K Q st R G a w hK h F hGP;simp only[evR]at h;cases h
 |refuse why=>intro K Q st R G a w hK h F hGP;simp only[evR]at h;cases h
 |rangeFunc f ps asg body ih1 ih2=>intro K Q st R G a w hK h F hGP;simp only[evR]at h;cases h
 |seq x y ihx ihy=>intro K Q st R G a w hK h F hGP;simp only[evR]at h;refine wp_seq ?_;exact ihx ⟨fun st'=>evR E c.m q y st' K,K.exits,K.ret⟩ _ st R G a w ⟨fun st' R' G' a' w' h1 h2 h3=>ihy K Q st' R' G' a' w' hK h1 h2 h3,hK.exits,hK.ret⟩ h F hGP
 |cond b x y ihx ihy=>
  intro K Q st R G a w hK h F hGP;simp only[evR]at h;split at h
  ·rename_i t ht;have hb:=YV (hgl R hGP) F.slots b;rw[ht]at hb;simp only[Rel]at hb;refine wp_cond hb ?_;cases t
   ·exact ihy K Q st R G a w hK h F hGP
   ·exact ihx K Q st R G a w hK h F hGP
  ·cases h
 |block i x ih=>
  intro K Q st R G a w hK h F hGP;simp only[evR]at h;refine wp_block (ih (J9 i K) _ st R G a w ⟨hK.normal,fun j st' R' G' a' w' h1 h2 h3=>?_,hK.ret⟩ h F hGP);simp only[J9]at h1;show(if j=i then Q .normal a' w' else Q (.exit j) a' w');split at h1
  ·rename_i hb;rw[if_pos (yX.1 hb)];exact hK.normal st' R' G' a' w' h1 h2 h3
  ·rename_i hb;rw[if_neg (fun e=>by rw[yX.2 e]at hb;cases hb)];exact hK.exits j st' R' G' a' w' h1 h2 h3
 |loop x ih=>
  intro K Q st R G a w hK h F hGP;simp only[evR]at h;generalize hB:(fun(again:St→Option T) st'=>evR E c.m q x st' ⟨fun st''=>match zeR c.m st'' with
   |some s=>again s
   |none=>none,K.exits,K.ret⟩)=B at h
  refine YB (ι:=Nat) id (fun n a w=>∃st R G,qX B n st=some r∧Fit c E.n R G st a w∧GP R) ?_ q ⟨st,R,G,h,F,hGP⟩;intro n a w ⟨st,R,G,h,F,hGP⟩;cases n with
  |zero=>cases h
  |succ n=>
   have h1:B (qX B n) st=some r:=h;have h':evR E c.m q x st ⟨fun st''=>match zeR c.m st'' with
    |some s=>qX B n s
    |none=>none,K.exits,K.ret⟩=some r:=by
    have h2:=congrFun (congrFun hB (qX B n)) st;rw[←h2]at h1;exact h1
   refine ih ⟨fun st''=>match zeR c.m st'' with
    |some s=>qX B n s
    |none=>none,K.exits,K.ret⟩ _ st R G a w ⟨fun st' R' G' a' w' h1 h2 h3=>?_,hK.exits,hK.ret⟩ h' F hGP
   simp only[]at h1;split at h1
   ·rename_i s hs;obtain⟨G2,F2⟩:=zq9 h2 hs;exact⟨n,Nat.lt_succ_self n,s,R',G2,h1,F2,h3⟩
   ·cases h1
end
structure RunW where
 Γ:FuncId→List Con
 fs:FuncId→List FuncId
 qs:FuncId→List FuncId
 ns:FuncId→Bool
 q:Nat
 ok:∀g f,memN f (qs g)=true→f∉fs g∧∀C∈Γ g,C.f=f→QuietC C
def RunW.all(S:RunW)(g:FuncId)(F:FuncId→List AV→Heap→Option Out):List Con:=S.Γ g++((S.fs g).map (zwS F)++(S.qs g).map (zwR F))
theorem RunW.qok(S:RunW)(g:FuncId)(F:FuncId→List AV→Heap→Option Out):∀f,memN f (S.qs g)=true→∀C∈S.all g F,C.f=f→QuietC C:=fun f hf C hC e=>by
 obtain⟨h1,h2⟩:=S.ok g f hf;rcases List.mem_append.1 hC with hC|hC
 ·exact h2 C hC e
 ·rcases List.mem_append.1 hC with hC|hC
  ·obtain⟨g',hg,rfl⟩:=List.mem_map.1 hC;exact absurd (show g'∈S.fs g from hg) (by have e:g'=f:=e;rw[e];exact h1)
  ·obtain⟨g',_,rfl⟩:=List.mem_map.1 hC;exact zjZ F g'
noncomputable def zaD(P:Program)(gl:Glob)(S:RunW):Nat→FuncId→List AV→Heap→Option Out
 |0,_,_,_=>none
 |n+1,f,args,h=>match P.funcs[f]? with
  |some fn=>match fn.body,Yg P f&&Nat.ble args.length fn.ntmps with
   |some code,true=>evR ⟨P,gl,S.all f (zaD P gl S n),0,fn.ntmps,S.qs f,S.qok f (zaD P gl S n)⟩ h.length S.q code ⟨zjs 0 args,h⟩
    ⟨zm9 P (S.ns f) h.length fn.results.toList,fun _ _=>none,zm9 P (S.ns f) h.length fn.results.toList⟩
   |_,_=>none
  |none=>none
theorem Zz{P:Program}{GP:Ro→Prop}{gl:Glob}(b:Bas P GP gl)(S:RunW)(hΓ:∀g,∀C∈S.Γ g,SoundC P GP C):∀n g,SoundC P GP (zwS (zaD P gl S n) g)
 |0,g=>fun _ _ _ _ _ hs=>by cases hs
 |n+1,g=>by
  intro args h x r hd hs;have hx:(args,h)=x:=Option.some.inj hd;subst hx;have hs':zaD P gl S (n+1) g args h=some r:=hs;have quiet:∀g,SoundC P GP (zwR (zaD P gl S n) g):=fun g args h x r hd hs=>by obtain⟨e1,_⟩:=zab hs;exact Zz b S hΓ n g args h x r hd e1
  unfold zaD at hs';split at hs'
  ·rename_i fn hf;split at hs'
   ·rename_i code hb hen;obtain⟨h1,h2⟩:=Bool.and_eq_true_iff.1 hen;refine⟨jt h1,fun R G w vs hGP W hargs=>?_⟩;have hlen:vs.length=args.length:=hargs.length.symm;have hkn':=Nat.le_of_ble_eq_true h2;refine calls_of_wp hf hb ?_;let c:Base:=⟨R,look G h,fpsAll G h,w,h.length⟩
    let a0:Act:={tmps:=vs.toArray++Array.replicate (fn.ntmps-vs.toArray.size) undef,defers:=[]}
    have F0:Fit c fn.ntmps R G ⟨zjs 0 args,h⟩ a0 w:=by
     refine⟨W,⟨Keeps.refl _ _,fun _ _ h=>h,fun b h=>.inl h,fun i r b hi hr hb=>.inl (jk.2 ⟨i,r,hi,hr,hb⟩),fun _ _ _=>rfl,Nat.le_refl _⟩,zdU hargs fun p v hp=>?_,rfl,?_⟩
     ·have hlt:=(List.getElem?_eq_some_iff.1 hp).1;rw[Nat.zero_add];show(vs.toArray++Array.replicate (fn.ntmps-vs.toArray.size) undef).getD p undef=v;have h4:=(List.getElem?_eq_some_iff.1 hp).2;simp[Array.getElem?_append,hlt];exact h4
     ·show(vs.toArray++Array.replicate (fn.ntmps-vs.toArray.size) undef).size=fn.ntmps;simp;omega
    have ret:∀st R' G'(a:Act) w',zm9 P (S.ns g) c.m fn.results.toList st=some r→Fit c fn.ntmps R' G' st a w'→GP R'→a.defers=[]∧∃v,(results fn a.tmps).run P w'=.ok v w'∧
      (∃V R' G',Ending.returned v=.returned V∧WRel R' G' r.h w'∧Since c R' G' r.h w'∧Rel (look G' r.h) R' r.v V):=by
     intro st R' G' a w' h F _;obtain⟨V,R2,G2,g1,g2,g3,g4⟩:=zvg F h;exact⟨F.defers,V,g1,V,R2,G2,rfl,g2,g3,g4⟩
    refine zxi (E:=⟨P,gl,S.all g (zaD P gl S n),0,fn.ntmps,S.qs g,S.qok g (zaD P gl S n)⟩) (c:=c) b.hmx (fun C hC=>?_) b.hgl b.hst code
     ⟨zm9 P (S.ns g) c.m fn.results.toList,fun _ _=>none,zm9 P (S.ns g) c.m fn.results.toList⟩ _ _ R G a0 w
     ⟨fun st R' G' a w' h F hG=>ret st R' G' a w' h F hG,(fun i st R' G' a w' h _ _=>by cases h),fun st R' G' a w' h F hG=>ret st R' G' a w' h F hG⟩ hs' F0 hGP
    rcases List.mem_append.1 hC with hC|hC
    ·exact hΓ g C hC
    ·rcases List.mem_append.1 hC with hC|hC
     ·obtain⟨q,_,rfl⟩:=List.mem_map.1 hC;exact Zz b S hΓ n q
     ·obtain⟨q,_,rfl⟩:=List.mem_map.1 hC;exact quiet q
   ·cases hs'
  ·cases hs'
end Go.Am
end
