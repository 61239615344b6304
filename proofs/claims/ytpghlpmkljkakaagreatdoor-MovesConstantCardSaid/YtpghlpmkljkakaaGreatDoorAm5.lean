/-
  A part of the proof of the laws on moves.
-/
import Derived.Test.YtpghlpmkljkakaaGreatDoorAm4
namespace Go.Am
open Go Go.RowKit Go.Vc
section
variable {P : Program} {L : Lk} {R : Ro}
theorem zh6{k:IntKind}{n:Int}{v:AV}(h:zmg k n=(true,v)):∃m:Vc.Mode,∃c V,m.int k n=(c,V)∧jm c∧Rel L R v V:=by
 unfold zmg at h;split at h
 ·simp only[Prod.mk.injEq]at h;obtain⟨h1,rfl⟩:=h;exact⟨.exact,_,_,rfl,yj.1 h1,rfl⟩
 ·simp only[Prod.mk.injEq]at h;obtain⟨-,rfl⟩:=h;exact⟨.wrap,_,_,rfl,trivial,rfl⟩
theorem znK(a b:Int):(a==b)=decide (a=b):=by by_cases h:a=b<;>simp[h]
theorem zsu(a b:Int):(a !=b)=!decide (a=b):=by by_cases h:a=b<;>simp[h]
theorem zkC(a b:List UInt8):(a==b)=decide (a=b):=by by_cases h:a=b<;>simp[h]
theorem zkD(a b:Bool):(a==b)=decide (a=b):=by cases a<;>cases b<;>rfl
theorem zb5{op:BinOp}{k:IntKind}{a b:Int}{v:AV}(h:zmT op k a b=some (true,v)):
  ∃m:Vc.Mode,∃c V,zk1 m op k a b=some (c,V)∧jm c∧Rel L R v V:=by
 unfold zmT at h;split at h;case h_4|h_5=>
  simp only[Option.some.injEq,Prod.mk.injEq,Bool.and_eq_true,decide_eq_true_eq,ze]at h;first
   |(obtain⟨⟨⟨h1,h2⟩,h3⟩,rfl⟩:=h;exact⟨.exact,_,_,rfl,⟨h1,h2,yj.1 h3⟩,rfl⟩)
   |(obtain⟨⟨h1,h2⟩,rfl⟩:=h;exact⟨.exact,_,_,rfl,And.intro h1 h2,rfl⟩)
 case h_6|h_7|h_8=>cases h;exact⟨.exact,none,_,rfl,trivial,rfl⟩
 case h_9=>
  split at h
  ·rename_i cc hc;simp only[Option.some.injEq,Prod.mk.injEq,true_and]at h;subst h;refine⟨.exact,none,.bool cc,?_,trivial,rfl⟩;unfold zt8 at hc;split at hc<;>simp only[Option.some.injEq,reduceCtorEq]at hc<;>subst hc<;>simp only[zk1,znK,zsu]
  ·cases h
 all_goals
  simp only[Option.some.injEq]at h;obtain⟨m,c,V,h1,h2,h3⟩:=zh6 (L:=L) (R:=R) h;exact⟨m,c,V,by simp only[zk1,h1],h2,h3⟩
theorem zmQ{op:BinOp}{a b:List UInt8}{v:AV}(h:ziz op a b=some (true,v)):
  ∃c V,zmR op (bl (bs a)) (bl (bs b))=some (c,V)∧jm c∧Rel L R v V:=by
 simp only[Kl];unfold ziz at h;split at h<;>simp only[Option.some.injEq,Prod.mk.injEq,true_and,reduceCtorEq]at h
 ·obtain⟨h1,rfl⟩:=h;have h1:=Y2.1 h1;exact⟨_,_,rfl,by show _≤_;omega,rfl⟩
 all_goals
  subst h;exact⟨_,_,rfl,trivial,by simp only[Rel,zkC]⟩
theorem zso:∀{fs:List Field}{n:Nat}{xs ys:List AV}{Xs Ys:List Value}{b:Bool},zkn P fs n xs ys=some b→
  RelL L R xs (Xs.drop n)→RelL L R ys (Ys.drop n)→zib P (YO P 7) Xs Ys fs=some b:=by
 intro fs;induction fs with
 |nil=>intro n xs ys Xs Ys b he _ _;cases xs<;>cases ys<;>simp only[zkn,reduceCtorEq,Option.some.injEq]at he;subst he;rfl
 |cons f r ih=>
  intro n xs ys Xs Ys b he rx ry
  match xs,ys,he,rx,ry with
  |[],_,he,_,_=>simp[zkn]at he
  |x::xr,[],he,_,_=>simp[zkn]at he
  |x::xr,y::yr,he,rx,ry=>
   obtain⟨X,Xr,e1,r1,r2⟩:=rx;obtain⟨Y,Yr,e2,r3,r4⟩:=ry;have eX:Xs[n]? =some X:=by have:=congrArg (·[0]?) e1;simpa[List.getElem?_drop]using this
   have eY:Ys[n]? =some Y:=by have:=congrArg (·[0]?) e2;simpa[List.getElem?_drop]using this
   have dX:Xs.drop (n+1)=Xr:=by have:=congrArg (List.drop 1) e1;simpa[List.drop_drop,Nat.add_comm]using this
   have dY:Ys.drop (n+1)=Yr:=by have:=congrArg (List.drop 1) e2;simpa[List.drop_drop,Nat.add_comm]using this
   simp only[zkn]at he;split at he
   ·rename_i c h1 h2 h3 h4;have h1:=Nat.eq_of_beq_eq_true h1;have ih':=ih h4 (by rw[dX];exact r2) (by rw[dY];exact r4);have key:∃d,zY P f.type=some false∧YO P 7 f.type X Y=some d∧b=(d&&c):=by
     split at he
     ·rename_i p q hu;cases he;simp only[Rel]at r1 r3;subst r1 r3;exact⟨decide (p=q),by simp[zY,hu],by simp only[YO,hu,zkD],rfl⟩
     ·rename_i kk k p k' q hu;split at he
      ·rename_i hk;cases he;simp only[Rel]at r1 r3;subst r1 r3;exact⟨decide (p=q),by simp[zY,hu],by simp only[YO,hu,hk,if_true,znK],rfl⟩
      ·cases he
     ·rename_i p q hu;cases he;simp only[Rel]at r1 r3;subst r1 r3;exact⟨decide (p=q),by simp[zY,hu],by simp only[YO,hu,Kl,zkC],rfl⟩
     ·cases he
    obtain⟨d,hagg,heq,rfl⟩:=key;have pX:jy P f.type Xs f.offset=some X:=by unfold jy;rw[hagg,h3,h1];exact eX
    have pY:jy P f.type Ys f.offset=some Y:=by unfold jy;rw[hagg,h3,h1];exact eY
    cases r with
    |nil=>
     have hc:c=true:=by cases xr<;>cases yr<;>simp only[zkn,reduceCtorEq,Option.some.injEq]at h4;exact h4.symm
     subst hc;simp only[zib,h2,pX,pY,heq,Bool.and_true];rfl
    |cons g s=>
     rw[zib]
     ·simp only[h2,pX,pY,heq,ih'];rfl
     ·intro hh;cases hh
   ·cases he
theorem zsD{op:BinOp}{t:TypeId}{x y v:AV}{X Y:Value}(h:ztG P op t x y=some (true,v))(hx:Rel L R x X)(hy:Rel L R y Y):
  ∃m:Vc.Mode,∃c V,zfY P m op t X Y=some (c,V)∧jm c∧Rel L R v V:=by
 unfold ztG at h;split at h
 ·rename_i k k' b;obtain⟨n,hn,rfl⟩:=hx;simp only[Rel]at hy;subst hy;split at h
  ·rename_i hk hb;have hb:b≤0:=by simpa using hb
   cases h;obtain⟨m,c,V,h1,h2,h3⟩:=zb5 (L:=L) (R:=R) (op:=.eql) (k:=k) (a:=n) (b:=b) (v:=.bool (decide (n=b))) rfl;rw[decide_eq_false (by omega)]at h3;exact⟨m,c,V,by simp only[zfY,hk,if_true,h1],h2,h3⟩
  ·rename_i hk hb;have hb:b≤0:=by simpa using hb
   cases h;obtain⟨m,c,V,h1,h2,h3⟩:=zb5 (L:=L) (R:=R) (op:=.neq) (k:=k) (a:=n) (b:=b) (v:=.bool (!decide (n=b))) rfl;rw[decide_eq_false (by omega)]at h3;exact⟨m,c,V,by simp only[zfY,hk,if_true,h1],h2,h3⟩
  ·cases h
 ·rename_i k a k' b;simp only[Rel]at hx hy;subst hx hy;split at h
  ·simp only[Option.some.injEq,Prod.mk.injEq,Bool.and_eq_true,ze,decide_eq_true_eq,Nat.ble_eq]at h;obtain⟨⟨h1,h2⟩,rfl⟩:=h;exact⟨.exact,_,_,rfl,⟨h1,by omega⟩,rfl⟩
  ·simp only[Option.some.injEq,Prod.mk.injEq,Bool.and_eq_true,ze,decide_eq_true_eq,Nat.ble_eq]at h;obtain⟨⟨h1,h2⟩,rfl⟩:=h;exact⟨.exact,_,_,rfl,⟨h1,by omega⟩,rfl⟩
  ·split at h
   ·rename_i h1 h2 _ hk;obtain⟨m,c,V,g1,g2,g3⟩:=zb5 (L:=L) (R:=R) h;refine⟨m,c,V,?_,g2,g3⟩;cases op<;>first|exact (h1 rfl).elim|exact (h2 rfl).elim|simp only[zfY,hk,if_true,g1]
   ·cases h
 ·simp only[Rel]at hx hy;subst hx hy;obtain⟨c,V,h1,h2,h3⟩:=zmQ (L:=L) (R:=R) h;exact⟨.exact,c,V,by simp only[zfY,h1],h2,h3⟩
 ·rename_i a b;simp only[Rel]at hx hy;subst hx hy;split at h<;>simp only[Option.some.injEq,Prod.mk.injEq,true_and,reduceCtorEq]at h;all_goals
   rename_i hu;subst h;exact⟨.exact,none,_,by simp only[zfY,hu,zmS];rfl,trivial,by simp only[Rel,zkD]⟩
 ·rename_i xs ys;obtain⟨Xs,rfl,hx⟩:=hx;obtain⟨Ys,rfl,hy⟩:=hy;have key:∀{c:Bool},zqT P t xs ys=some c→P.eqGuardType P.depth t=false∧YO P 8 t (.agg Xs.toArray) (.agg Ys.toArray)=some c:=by
   intro c hc;unfold zqT at hc;split at hc
   ·rename_i fs hu hg hs;refine⟨hg,?_⟩;simp only[YO,hu,hs,Bool.false_eq_true,if_false];exact zso hc (by simpa using hx) (by simpa using hy)
   ·cases hc
  split at h<;>simp only[Option.some.injEq,Prod.mk.injEq,true_and,reduceCtorEq]at h;all_goals
   rename_i c hc;obtain⟨h1,h2⟩:=key hc;subst h;exact⟨.exact,none,_,by simp only[zfY,h1,h2,Bool.false_eq_true,if_false],trivial,rfl⟩
 ·cases h
theorem zjA(v:Value):Rel L R (zos v) v:=by
 unfold zos;split<;>(try exact rfl)
 ·split
  ·rename_i f first cap h1 h2
   exact⟨[],[],by simp[Array.toList_eq_nil_iff.1 h1,Array.toList_eq_nil_iff.1 h2],rfl,rfl⟩
  ·trivial
 ·trivial
theorem zbv:∀(l:List Value),RelL L R (l.map zos) l
 |[]=>rfl
 |v::r=>⟨v,r,rfl,zjA v,zbv r⟩
theorem znl(v:Value):Rel L R (ofV v) v:=by
 unfold ofV;split
 ·rename_i cs;exact⟨cs.toList,rfl,zbv _⟩
 ·exact zjA v
def GlobOK(gl:Glob)(R:Ro):Prop:=∀g,Rel (fun _=>none) R (Js gl g) (.pointer (some ⟨g,0,none⟩))
theorem Jr:∀(gl:Glob)(g:Nat),idsV (Js gl g)=[]
 |[],_=>rfl
 |(h,v)::r,g=>by
  simp only[Js];split
  ·rfl
  ·exact Jr r g
theorem zab{gl:Glob}(hg:GlobOK gl R){s:Slots}{a:Act}(hs:∀t,Rel L R (get s t) (a.tmps.getD t undef))(x:Operand):Rel L R (opnd gl s x) (a.eval x):=by
 cases x with
 |tmp t=>exact hs t
 |const v=>exact znl v
 |global g=>exact zh (fun _ _ h=>h) _ _ (by simp[opnd,Jr]) (hg g)
 |func f=>exact⟨[],[],rfl,rfl,rfl⟩
theorem W9{t:TypeId}{cs:List AV}{off:Nat}{v:AV}{vs:List Value}(h:zd4 P t cs off=some v)(hr:RelL L R cs vs):
  ∃V n,jy P t vs off=some V∧Rel L R v V∧zG P t=some n∧off+n≤vs.length:=by
 unfold zd4 at h;split at h
 ·rename_i n ha hs;split at h
  ·rename_i hle;cases h;exact⟨_,n,by simp only[jy,ha,hs],⟨_,rfl,(hr.drop off).take n⟩,hs,by have:=Nat.le_of_ble_eq_true hle;rw[hr.length]at this;exact this⟩
  ·cases h
 ·rename_i ha hs;obtain⟨V,e,hv⟩:=hr.get h;exact⟨V,1,by simp only[jy,ha,hs];exact e,hv,hs,(List.getElem?_eq_some_iff.1 e).1⟩
 ·cases h
theorem zgG(off:Nat):∀(vs:List Value)(k:Nat)(cs:Array Value)(p:Nat),off+k+vs.length≤cs.size→
  ((vs.zipIdx k).foldl (fun(cs:Array Value)(x:Value×Nat)=>cs.setIfInBounds (off+x.2) x.1) cs)[p]? =if off+k≤p∧p<off+k+vs.length then vs[p-(off+k)]? else cs[p]?
 |[],k,cs,p,_=>by rw[if_neg (by simp)];rfl
 |v::r,k,cs,p,hle=>by
  simp only[List.zipIdx_cons,List.foldl_cons];rw[zgG off r (k+1) _ p (by simp at hle⊢;omega)];by_cases h1:off+(k+1)≤p∧p<off+(k+1)+r.length
  ·rw[if_pos h1,if_pos (by simp;omega),show p-(off+k)=(p-(off+(k+1)))+1 by omega];simp
  ·rw[if_neg h1];by_cases h2:p=off+k
   ·subst h2;rw[if_pos (by simp)];simp only[List.length_cons]at hle;have h3:off+k<cs.size:=by omega
    simp[h3]
   ·rw[if_neg (by simp;omega),Array.getElem?_setIfInBounds_ne (by omega)]
theorem zmf(off:Nat)(vs:List Value)(cs:Array Value)(hle:off+vs.length≤cs.size):
  (vs.toArray.zipIdx.foldl (fun cs x=>cs.setIfInBounds (off+x.2) x.1) cs).toList=cs.toList.take off++vs++cs.toList.drop (off+vs.length):=by
 rw[←Array.foldl_toList];apply List.ext_getElem?;intro p;have h:=zgG off vs 0 cs p (by omega);simp only[Nat.add_zero]at h;have h':((vs.toArray.zipIdx.toList).foldl (fun(cs:Array Value)(x:Value×Nat)=>cs.setIfInBounds (off+x.2) x.1) cs).toList[p]? =if off≤p∧p<off+vs.length then vs[p-off]? else cs[p]? :=by rw[Array.getElem?_toList,←h];simp
 rw[h'];have hsz:(cs.toList.take off).length=off:=by simp;omega
 by_cases h1:off≤p∧p<off+vs.length
 ·rw[if_pos h1,List.append_assoc,List.getElem?_append_right (by omega),hsz,List.getElem?_append_left (by omega)]
 ·rw[if_neg h1];by_cases h2:p<off
  ·rw[List.append_assoc,List.getElem?_append_left (by omega),List.getElem?_take,if_pos h2];simp
  ·rw[List.getElem?_append_right (by simp;omega)];simp only[List.length_append,hsz,List.getElem?_drop];rw[show off+vs.length+(p-(off+vs.length))=p by omega];simp
theorem zaF{place:Nat→Option (Nat×Nat)}:∀{parts:List (Nat×AV)}{l l':List AV}{cs:Array Value}{parts':List (Nat×Value)},
  zeU place l parts=some l'→RelL L R l cs.toList→parts.map (·.1)=parts'.map (·.1)→RelL L R (parts.map (·.2)) (parts'.map (·.2))→
  ∃cs',Instr.fill place cs parts'=some cs'∧RelL L R l' cs'.toList:=by
 intro parts;induction parts with
 |nil=>
  intro l l' cs parts' h hr h1 _;simp only[zeU,Option.some.injEq]at h;subst h;cases parts' with
  |nil=>exact⟨cs,rfl,hr⟩
  |cons _ _=>simp at h1
 |cons p r ih=>
  intro l l' cs parts' h hr h1 h2;obtain⟨i,v⟩:=p;cases parts' with
  |nil=>simp at h1
  |cons q r'=>
   obtain⟨i',V⟩:=q;simp only[List.map_cons,List.cons.injEq]at h1 h2;obtain⟨rfl,h1⟩:=h1;obtain⟨u,us,e,hv,h3⟩:=h2;simp only[List.cons.injEq]at e;obtain⟨rfl,rfl⟩:=e;simp only[zeU]at h;split at h
   ·cases h
   ·rename_i off n hp;split at h
    ·rename_i hb hle ho;have hb:=Nat.eq_of_beq_eq_true hb;have hle:=Nat.le_of_ble_eq_true hle;obtain⟨vs,e1,e2,_⟩:=hv.cells ho;have hlen:vs.length=n:=by rw[←e2.length,hb]
     have hsz:l.length=cs.size:=by rw[hr.length];simp
     obtain⟨cs',h4,h5⟩:=ih (cs:=(V.cells.zipIdx.foldl (fun cs(c,j)=>cs.setIfInBounds (off+j) c) cs)) h (by
      rw[e1];have:=zmf off vs cs (by omega);rw[this];exact hr.setL e2 off) h1 h3
     refine⟨cs',?_,h5⟩;simp only[Instr.fill,hp];have hc:¬((decide (V.cells.size≠n)||decide (off+V.cells.size>cs.size))=true):=by rw[e1];simp;omega
     rw[if_neg hc];exact h4
    ·cases h
theorem zeh(ev:Operand→AV):∀(l:List (Nat×Operand)),(Wa ev l).map (·.1)=l.map (·.1)
 |[]=>rfl
 |(i,x)::r=>by simp[Wa,zeh ev r]
theorem zeg{ev:Operand→AV}{ρ:Operand→Value}(h:∀x,Rel L R (ev x) (ρ x)):∀(l:List (Nat×Operand)),RelL L R ((Wa ev l).map (·.2)) (l.map fun p=>ρ p.2)
 |[]=>rfl
 |(_i,x)::r=>⟨_,_,rfl,h x,zeg h r⟩
theorem zgv(ρ:Operand→Value):∀(l:List (Nat×Operand)),zlU (fun x=>some (ρ x)) l=some (l.map fun p=>(p.1,ρ p.2))
 |[]=>rfl
 |(i,x)::r=>by simp[zlU,zgv ρ r]
theorem zgt(ρ:Operand→Value):∀(l:List Operand),zfE (fun x=>some (ρ x)) l=some (l.map ρ)
 |[]=>rfl
 |x::r=>by simp[zfE,zgt ρ r]
theorem XK{ev:Operand→AV}{ρ:Operand→Value}(h:∀x,Rel L R (ev x) (ρ x)):∀(l:List Operand),RelL L R (l.map ev) (l.map ρ)
 |[]=>rfl
 |x::r=>⟨_,_,rfl,h x,XK h r⟩
theorem Xq{t:TypeId}{cs:List AV}(h:zf1 P t=some cs):∃vs,ziK P t=some vs∧RelL L R cs vs:=by
 unfold zf1 at h;split at h
 ·rename_i vs hv;cases h;exact⟨vs,hv,zbv vs⟩
 ·cases h
theorem zpb{t:TypeId}{parts:List (Nat×AV)}{v:AV}{parts':List (Nat×Value)}(h:zmI P t parts=some v)(h1:parts.map (·.1)=parts'.map (·.1))
  (h2:RelL L R (parts.map (·.2)) (parts'.map (·.2))):∃V,Wv P t parts'=some V∧Rel L R v V:=by
 have zi:∀{z:List AV},zf1 P t=some z→∃i zv,P.info? t=some i∧i.zero=some zv∧RelL L R z zv.cells.toList:=by
  intro z hz;obtain⟨vs,e1,e2⟩:=Xq (L:=L) (R:=R) hz;unfold ziK at e1;split at e1
  ·rename_i i hi;split at e1
   ·rename_i zv hzv;cases e1;exact⟨i,zv,hi,hzv,e2⟩
   ·cases e1
  ·cases e1
 unfold zmI at h;split at h
 ·rename_i fields z hu hz;obtain⟨i,zv,e1,e2,e3⟩:=zi hz;split at h
  ·rename_i places hp;split at h
   ·rename_i cs hf;cases h;obtain⟨cs',e4,e5⟩:=zaF hf e3 h1 h2;exact⟨.agg cs',by simp only[Wv,e1,hu,e2,hp,e4],⟨cs'.toList,rfl,e5⟩⟩
   ·cases h
  ·cases h
 ·rename_i n elem z hu hz;obtain⟨i,zv,e1,e2,e3⟩:=zi hz;split at h
  ·rename_i size hs;split at h
   ·rename_i cs hf;cases h;obtain⟨cs',e4,e5⟩:=zaF hf e3 h1 h2;exact⟨.agg cs',by simp only[Wv,e1,hu,e2,hs,e4],⟨cs'.toList,rfl,e5⟩⟩
   ·cases h
  ·cases h
 ·cases h
theorem RoRow.row{full:Bool}{n:Nat}{V:Value}{C:List Value→Prop}(h:RoRow R full n V C):∃a cap,V=.slice a n cap:=by
 rcases h with⟨rfl,a,cap,h,_⟩|⟨b,off,cap,cs,T,fr,seg,tl,h,_⟩
 ·exact⟨a,cap,h⟩
 ·exact⟨_,cap,h⟩
theorem RoRow.at_{full:Bool}{n:Nat}{V:Value}{C:List Value→Prop}(h:RoRow R full n V C)(hn:0<n):
  ∃b off cap cs T fr seg tl,V=.slice (some ⟨b,off,none⟩) n cap∧R b=some (.cells cs T fr)∧cs.toList.drop off=seg++tl∧C seg:=by
 rcases h with⟨rfl,_⟩|⟨b,off,cap,cs,T,fr,seg,tl,h1,_,_,h2,h3,h4⟩
 ·omega
 ·exact⟨b,off,cap,cs,T,fr,seg,tl,h1,h2,h3,h4⟩
theorem zn{i:Int}{n:Nat}:zj i n=true↔0≤i∧i<(n:Int):=by simp[zj]
theorem zJ{lo hi:Int}{n:Nat}:zk lo hi n=true↔0≤lo∧lo≤hi∧hi≤(n:Int):=by simp[zk,and_assoc]
theorem zr9{G:List Res}{h:Heap}{R:Ro}{v:AV}{V:Value}{n:Int}(hn:zhR h v=some n)(hr:Rel (look G h) R v V):
  ∃a k cap,V=.slice a k cap∧n=(k:Int):=by
 unfold zhR at hn;split at hn
 ·cases hn;simp only[Rel]at hr;exact⟨none,0,0,hr,rfl⟩
 ·rename_i i;split at hn
  ·rename_i o ho;cases hn;obtain⟨f,h1,h2,h3⟩:=hr;obtain⟨o',r,h4,h5,rfl⟩:=zB h1;rw[ho]at h4;cases h4;cases hv:r.virt
   ·exact⟨_,_,_,h3 hv,rfl⟩
   ·have:=h2 hv;simp only at this;exact⟨_,_,_,this.2,by rw[this.1]⟩
  ·cases hn
 ·rename_i i;split at hn
  ·rename_i o ho;cases hn;obtain⟨f,h1,h2,h2',h3⟩:=hr;obtain⟨o',r,h4,h5,rfl⟩:=zB h1;rw[ho]at h4;cases h4;exact⟨_,_,_,h3,rfl⟩
  ·cases hn
 ·cases hn;obtain⟨f,_,h1,h2,h3,a,cap,rfl,_⟩:=hr;exact⟨a,_,cap,rfl,by omega⟩
 all_goals first
  |(cases hn;done)
  |(
   simp only[Option.some.injEq]at hn;subst hn;simp only[Rel]at hr;first
    |(obtain⟨a,cap,h⟩:=hr.row;exact⟨a,_,cap,h,rfl⟩)
    |(obtain⟨a,cap,h⟩:=hr.2.row;exact⟨a,_,cap,h,rfl⟩))
theorem zrL{l:List UInt8}{lo hi:Option AV}{v:AV}{lo' hi':Option Value}(h:zs8 l lo hi=some (true,v))
  (hlo:match lo,lo' with|none,none=>True|some x,some X=>Rel L R x X|_,_=>False) (hhi:match hi,hi' with|none,none=>True|some x,some X=>Rel L R x X|_,_=>False):
  ∃c V,zhr (bs l) lo' hi'=some (c,V)∧jm c∧Rel L R v V:=by
 unfold zs8 at h;split at h
 ·cases h;cases lo' with
  |some _=>exact hlo.elim
  |none=>cases hi' with
   |some _=>exact hhi.elim
   |none=>exact⟨_,_,rfl,trivial,rfl⟩
 ·rename_i k n;simp only[Option.some.injEq,Prod.mk.injEq]at h;obtain⟨h1,rfl⟩:=h;have h1:=zJ.1 h1;cases lo' with
  |none=>exact hlo.elim
  |some X=>cases hi' with
   |some _=>exact hhi.elim
   |none=>simp only[Rel]at hlo;subst hlo;exact⟨_,_,rfl,by(simp only[jm,Kl];try omega),by simp only[Rel,Kl]⟩
 ·rename_i k n;simp only[Option.some.injEq,Prod.mk.injEq]at h;obtain⟨h1,rfl⟩:=h;have h1:=zJ.1 h1;cases lo' with
  |some _=>exact hlo.elim
  |none=>cases hi' with
   |none=>exact hhi.elim
   |some X=>simp only[Rel]at hhi;subst hhi;exact⟨_,_,rfl,by(simp only[jm,Kl];try omega),by simp only[Rel,Kl]⟩
 ·rename_i k n k' n';simp only[Option.some.injEq,Prod.mk.injEq]at h;obtain⟨h1,rfl⟩:=h;have h1:=zJ.1 h1;cases lo' with
  |none=>exact hlo.elim
  |some X=>cases hi' with
   |none=>exact hhi.elim
   |some Y=>simp only[Rel]at hlo hhi;subst hlo hhi;exact⟨_,_,rfl,by(simp only[jm,Kl];try omega),by simp only[Rel,Kl]⟩
 ·cases h
end
end Go.Am
