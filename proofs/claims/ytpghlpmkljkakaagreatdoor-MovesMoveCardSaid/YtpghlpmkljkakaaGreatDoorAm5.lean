/-
  A part of the proof of the laws on moves.
-/
import Derived.Test.YtpghlpmkljkakaaGreatDoorAm4
namespace Go.Am
open Go Go.RowKit Go.Vc
section
variable {P : Program} {L : Lk} {R : Ro}
theorem ziJ{k:IntKind}{n:Int}{v:AV}(h:zmY k n=(true,v)):∃m:Vc.Mode,∃c V,m.int k n=(c,V)∧jk c∧Rel L R v V:=by
 unfold zmY at h;split at h
 ·simp only[Prod.mk.injEq]at h;obtain⟨h1,rfl⟩:=h;exact⟨.exact,_,_,rfl,yl.1 h1,rfl⟩
 ·simp only[Prod.mk.injEq]at h;obtain⟨-,rfl⟩:=h;exact⟨.wrap,_,_,rfl,trivial,rfl⟩
theorem zov(a b:Int):(a==b)=decide (a=b):=by by_cases h:a=b<;>simp[h]
theorem zti(a b:Int):(a !=b)=!decide (a=b):=by by_cases h:a=b<;>simp[h]
theorem zlk(a b:List UInt8):(a==b)=decide (a=b):=by by_cases h:a=b<;>simp[h]
theorem zll(a b:Bool):(a==b)=decide (a=b):=by cases a<;>cases b<;>rfl
theorem zcj{op:BinOp}{k:IntKind}{a b:Int}{v:AV}(h:znA op k a b=some (true,v)):
  ∃m:Vc.Mode,∃c V,zlI m op k a b=some (c,V)∧jk c∧Rel L R v V:=by
 unfold znA at h;split at h;case h_4|h_5=>
  simp only[Option.some.injEq,Prod.mk.injEq,Bool.and_eq_true,decide_eq_true_eq,ze]at h;first
   |(obtain⟨⟨⟨h1,h2⟩,h3⟩,rfl⟩:=h;exact⟨.exact,_,_,rfl,⟨h1,h2,yl.1 h3⟩,rfl⟩)
   |(obtain⟨⟨h1,h2⟩,rfl⟩:=h;exact⟨.exact,_,_,rfl,And.intro h1 h2,rfl⟩)
 case h_6|h_7|h_8=>cases h;exact⟨.exact,none,_,rfl,trivial,rfl⟩
 case h_9=>
  split at h
  ·rename_i cc hc;simp only[Option.some.injEq,Prod.mk.injEq,true_and]at h;subst h;refine⟨.exact,none,.bool cc,?_,trivial,rfl⟩;unfold zvd at hc;split at hc<;>simp only[Option.some.injEq,reduceCtorEq]at hc<;>subst hc<;>simp only[zlI,zov,zti]
  ·cases h
 all_goals
  simp only[Option.some.injEq]at h;obtain⟨m,c,V,h1,h2,h3⟩:=ziJ (L:=L) (R:=R) h;exact⟨m,c,V,by simp only[zlI,h1],h2,h3⟩
theorem znx{op:BinOp}{a b:List UInt8}{v:AV}(h:zjc op a b=some (true,v)):
  ∃c V,zny op (bl (bs a)) (bl (bs b))=some (c,V)∧jk c∧Rel L R v V:=by
 simp only[Ks];unfold zjc at h;split at h<;>simp only[Option.some.injEq,Prod.mk.injEq,true_and,reduceCtorEq]at h
 ·obtain⟨h1,rfl⟩:=h;have h1:=Y8.1 h1;exact⟨_,_,rfl,by show _≤_;omega,rfl⟩
 all_goals
  subst h;exact⟨_,_,rfl,trivial,by simp only[Rel,zlk]⟩
theorem ztd:∀{fs:List Field}{n:Nat}{xs ys:List AV}{Xs Ys:List Value}{b:Bool},zk4 P fs n xs ys=some b→
  RelL L R xs (Xs.drop n)→RelL L R ys (Ys.drop n)→ziO P (YU P 7) Xs Ys fs=some b:=by
 intro fs;induction fs with
 |nil=>intro n xs ys Xs Ys b he _ _;cases xs<;>cases ys<;>simp only[zk4,reduceCtorEq,Option.some.injEq]at he;subst he;rfl
 |cons f r ih=>
  intro n xs ys Xs Ys b he rx ry
  match xs,ys,he,rx,ry with
  |[],_,he,_,_=>simp[zk4]at he
  |x::xr,[],he,_,_=>simp[zk4]at he
  |x::xr,y::yr,he,rx,ry=>
   obtain⟨X,Xr,e1,r1,r2⟩:=rx;obtain⟨Y,Yr,e2,r3,r4⟩:=ry;have eX:Xs[n]? =some X:=by have:=congrArg (·[0]?) e1;simpa[List.getElem?_drop]using this
   have eY:Ys[n]? =some Y:=by have:=congrArg (·[0]?) e2;simpa[List.getElem?_drop]using this
   have dX:Xs.drop (n+1)=Xr:=by have:=congrArg (List.drop 1) e1;simpa[List.drop_drop,Nat.add_comm]using this
   have dY:Ys.drop (n+1)=Yr:=by have:=congrArg (List.drop 1) e2;simpa[List.drop_drop,Nat.add_comm]using this
   simp only[zk4]at he;split at he
   ·rename_i c h1 h2 h3 h4;have h1:=Nat.eq_of_beq_eq_true h1;have ih':=ih h4 (by rw[dX];exact r2) (by rw[dY];exact r4);have key:∃d,ja P f.type=some false∧YU P 7 f.type X Y=some d∧b=(d&&c):=by
     split at he
     ·rename_i p q hu;cases he;simp only[Rel]at r1 r3;subst r1 r3;exact⟨decide (p=q),by simp[ja,hu],by simp only[YU,hu,zll],rfl⟩
     ·rename_i kk k p k' q hu;split at he
      ·rename_i hk;cases he;simp only[Rel]at r1 r3;subst r1 r3;exact⟨decide (p=q),by simp[ja,hu],by simp only[YU,hu,hk,if_true,zov],rfl⟩
      ·cases he
     ·rename_i p q hu;cases he;simp only[Rel]at r1 r3;subst r1 r3;exact⟨decide (p=q),by simp[ja,hu],by simp only[YU,hu,Ks,zlk],rfl⟩
     ·cases he
    obtain⟨d,hagg,heq,rfl⟩:=key;have pX:jy P f.type Xs f.offset=some X:=by unfold jy;rw[hagg,h3,h1];exact eX
    have pY:jy P f.type Ys f.offset=some Y:=by unfold jy;rw[hagg,h3,h1];exact eY
    cases r with
    |nil=>
     have hc:c=true:=by cases xr<;>cases yr<;>simp only[zk4,reduceCtorEq,Option.some.injEq]at h4;exact h4.symm
     subst hc;simp only[ziO,h2,pX,pY,heq,Bool.and_true];rfl
    |cons g s=>
     rw[ziO]
     ·simp only[h2,pX,pY,heq,ih'];rfl
     ·intro hh;cases hh
   ·cases he
theorem ztr{op:BinOp}{t:TypeId}{x y v:AV}{X Y:Value}(h:zuE P op t x y=some (true,v))(hx:Rel L R x X)(hy:Rel L R y Y):
  ∃m:Vc.Mode,∃c V,zgq P m op t X Y=some (c,V)∧jk c∧Rel L R v V:=by
 unfold zuE at h;split at h
 ·rename_i k k' b;obtain⟨n,hn,rfl⟩:=hx;simp only[Rel]at hy;subst hy;split at h
  ·rename_i hk hb;have hb:b≤0:=by simpa using hb
   cases h;obtain⟨m,c,V,h1,h2,h3⟩:=zcj (L:=L) (R:=R) (op:=.eql) (k:=k) (a:=n) (b:=b) (v:=.bool (decide (n=b))) rfl;rw[decide_eq_false (by omega)]at h3;exact⟨m,c,V,by simp only[zgq,hk,if_true,h1],h2,h3⟩
  ·rename_i hk hb;have hb:b≤0:=by simpa using hb
   cases h;obtain⟨m,c,V,h1,h2,h3⟩:=zcj (L:=L) (R:=R) (op:=.neq) (k:=k) (a:=n) (b:=b) (v:=.bool (!decide (n=b))) rfl;rw[decide_eq_false (by omega)]at h3;exact⟨m,c,V,by simp only[zgq,hk,if_true,h1],h2,h3⟩
  ·cases h
 ·rename_i k a k' b;simp only[Rel]at hx hy;subst hx hy;split at h
  ·simp only[Option.some.injEq,Prod.mk.injEq,Bool.and_eq_true,ze,decide_eq_true_eq,Nat.ble_eq]at h;obtain⟨⟨h1,h2⟩,rfl⟩:=h;exact⟨.exact,_,_,rfl,⟨h1,by omega⟩,rfl⟩
  ·simp only[Option.some.injEq,Prod.mk.injEq,Bool.and_eq_true,ze,decide_eq_true_eq,Nat.ble_eq]at h;obtain⟨⟨h1,h2⟩,rfl⟩:=h;exact⟨.exact,_,_,rfl,⟨h1,by omega⟩,rfl⟩
  ·split at h
   ·rename_i h1 h2 _ hk;obtain⟨m,c,V,g1,g2,g3⟩:=zcj (L:=L) (R:=R) h;refine⟨m,c,V,?_,g2,g3⟩;cases op<;>first|exact (h1 rfl).elim|exact (h2 rfl).elim|simp only[zgq,hk,if_true,g1]
   ·cases h
 ·simp only[Rel]at hx hy;subst hx hy;obtain⟨c,V,h1,h2,h3⟩:=znx (L:=L) (R:=R) h;exact⟨.exact,c,V,by simp only[zgq,h1],h2,h3⟩
 ·rename_i a b;simp only[Rel]at hx hy;subst hx hy;split at h<;>simp only[Option.some.injEq,Prod.mk.injEq,true_and,reduceCtorEq]at h;all_goals
   rename_i hu;subst h;exact⟨.exact,none,_,by simp only[zgq,hu,znz];rfl,trivial,by simp only[Rel,zll]⟩
 ·rename_i xs ys;obtain⟨Xs,rfl,hx⟩:=hx;obtain⟨Ys,rfl,hy⟩:=hy;have key:∀{c:Bool},zrz P t xs ys=some c→P.eqGuardType P.depth t=false∧YU P 8 t (.agg Xs.toArray) (.agg Ys.toArray)=some c:=by
   intro c hc;unfold zrz at hc;split at hc
   ·rename_i fs hu hg hs;refine⟨hg,?_⟩;simp only[YU,hu,hs,Bool.false_eq_true,if_false];exact ztd hc (by simpa using hx) (by simpa using hy)
   ·cases hc
  split at h<;>simp only[Option.some.injEq,Prod.mk.injEq,true_and,reduceCtorEq]at h;all_goals
   rename_i c hc;obtain⟨h1,h2⟩:=key hc;subst h;exact⟨.exact,none,_,by simp only[zgq,h1,h2,Bool.false_eq_true,if_false],trivial,rfl⟩
 ·cases h
theorem zkd(v:Value):Rel L R (zpc v) v:=by
 unfold zpc;split<;>(try exact rfl)
 ·split
  ·rename_i f first cap h1 h2
   exact⟨[],[],by simp[Array.toList_eq_nil_iff.1 h1,Array.toList_eq_nil_iff.1 h2],rfl,rfl⟩
  ·trivial
 ·trivial
theorem zbJ:∀(l:List Value),RelL L R (l.map zpc) l
 |[]=>rfl
 |v::r=>⟨v,r,rfl,zkd v,zbJ r⟩
theorem zn5(v:Value):Rel L R (ofV v) v:=by
 unfold ofV;split
 ·rename_i cs;exact⟨cs.toList,rfl,zbJ _⟩
 ·exact zkd v
def GlobOK(gl:Glob)(R:Ro):Prop:=∀g,Rel (fun _=>none) R (ju gl g) (.pointer (some ⟨g,0,none⟩))
theorem Jw:∀(gl:Glob)(g:Nat),idsV (ju gl g)=[]
 |[],_=>rfl
 |(h,v)::r,g=>by
  simp only[ju];split
  ·rfl
  ·exact Jw r g
theorem zar{gl:Glob}(hg:GlobOK gl R){s:Slots}{a:Act}(hs:∀t,Rel L R (get s t) (a.tmps.getD t undef))(x:Operand):Rel L R (opnd gl s x) (a.eval x):=by
 cases x with
 |tmp t=>exact hs t
 |const v=>exact zn5 v
 |global g=>exact zh (fun _ _ h=>h) _ _ (by simp[opnd,Jw]) (hg g)
 |func f=>exact⟨[],[],rfl,rfl,rfl⟩
theorem zap{t:TypeId}{cs:List AV}{off:Nat}{v:AV}{vs:List Value}(h:zen P t cs off=some v)(hr:RelL L R cs vs):
  ∃V n,jy P t vs off=some V∧Rel L R v V∧zG P t=some n∧off+n≤vs.length:=by
 unfold zen at h;split at h
 ·rename_i n ha hs;split at h
  ·rename_i hle;cases h;exact⟨_,n,by simp only[jy,ha,hs],⟨_,rfl,(hr.drop off).take n⟩,hs,by have:=Nat.le_of_ble_eq_true hle;rw[hr.length]at this;exact this⟩
  ·cases h
 ·rename_i ha hs;obtain⟨V,e,hv⟩:=hr.get h;exact⟨V,1,by simp only[jy,ha,hs];exact e,hv,hs,(List.getElem?_eq_some_iff.1 e).1⟩
 ·cases h
theorem zhg(off:Nat):∀(vs:List Value)(k:Nat)(cs:Array Value)(p:Nat),off+k+vs.length≤cs.size→
  ((vs.zipIdx k).foldl (fun(cs:Array Value)(x:Value×Nat)=>cs.setIfInBounds (off+x.2) x.1) cs)[p]? =if off+k≤p∧p<off+k+vs.length then vs[p-(off+k)]? else cs[p]?
 |[],k,cs,p,_=>by rw[if_neg (by simp)];rfl
 |v::r,k,cs,p,hle=>by
  simp only[List.zipIdx_cons,List.foldl_cons];rw[zhg off r (k+1) _ p (by simp at hle⊢;omega)];by_cases h1:off+(k+1)≤p∧p<off+(k+1)+r.length
  ·rw[if_pos h1,if_pos (by simp;omega),show p-(off+k)=(p-(off+(k+1)))+1 by omega];simp
  ·rw[if_neg h1];by_cases h2:p=off+k
   ·subst h2;rw[if_pos (by simp)];simp only[List.length_cons]at hle;have h3:off+k<cs.size:=by omega
    simp[h3]
   ·rw[if_neg (by simp;omega),Array.getElem?_setIfInBounds_ne (by omega)]
theorem zmX(off:Nat)(vs:List Value)(cs:Array Value)(hle:off+vs.length≤cs.size):
  (vs.toArray.zipIdx.foldl (fun cs x=>cs.setIfInBounds (off+x.2) x.1) cs).toList=cs.toList.take off++vs++cs.toList.drop (off+vs.length):=by
 rw[←Array.foldl_toList];apply List.ext_getElem?;intro p;have h:=zhg off vs 0 cs p (by omega);simp only[Nat.add_zero]at h;have h':((vs.toArray.zipIdx.toList).foldl (fun(cs:Array Value)(x:Value×Nat)=>cs.setIfInBounds (off+x.2) x.1) cs).toList[p]? =if off≤p∧p<off+vs.length then vs[p-off]? else cs[p]? :=by rw[Array.getElem?_toList,←h];simp
 rw[h'];have hsz:(cs.toList.take off).length=off:=by simp;omega
 by_cases h1:off≤p∧p<off+vs.length
 ·rw[if_pos h1,List.append_assoc,List.getElem?_append_right (by omega),hsz,List.getElem?_append_left (by omega)]
 ·rw[if_neg h1];by_cases h2:p<off
  ·rw[List.append_assoc,List.getElem?_append_left (by omega),List.getElem?_take,if_pos h2];simp
  ·rw[List.getElem?_append_right (by simp;omega)];simp only[List.length_append,hsz,List.getElem?_drop];rw[show off+vs.length+(p-(off+vs.length))=p by omega];simp
theorem zaT{place:Nat→Option (Nat×Nat)}:∀{parts:List (Nat×AV)}{l l':List AV}{cs:Array Value}{parts':List (Nat×Value)},
  zfc place l parts=some l'→RelL L R l cs.toList→parts.map (·.1)=parts'.map (·.1)→RelL L R (parts.map (·.2)) (parts'.map (·.2))→
  ∃cs',Instr.fill place cs parts'=some cs'∧RelL L R l' cs'.toList:=by
 intro parts;induction parts with
 |nil=>
  intro l l' cs parts' h hr h1 _;simp only[zfc,Option.some.injEq]at h;subst h;cases parts' with
  |nil=>exact⟨cs,rfl,hr⟩
  |cons _ _=>simp at h1
 |cons p r ih=>
  intro l l' cs parts' h hr h1 h2;obtain⟨i,v⟩:=p;cases parts' with
  |nil=>simp at h1
  |cons q r'=>
   obtain⟨i',V⟩:=q;simp only[List.map_cons,List.cons.injEq]at h1 h2;obtain⟨rfl,h1⟩:=h1;obtain⟨u,us,e,hv,h3⟩:=h2;simp only[List.cons.injEq]at e;obtain⟨rfl,rfl⟩:=e;simp only[zfc]at h;split at h
   ·cases h
   ·rename_i off n hp;split at h
    ·rename_i hb hle ho;have hb:=Nat.eq_of_beq_eq_true hb;have hle:=Nat.le_of_ble_eq_true hle;obtain⟨vs,e1,e2,_⟩:=hv.cells ho;have hlen:vs.length=n:=by rw[←e2.length,hb]
     have hsz:l.length=cs.size:=by rw[hr.length];simp
     obtain⟨cs',h4,h5⟩:=ih (cs:=(V.cells.zipIdx.foldl (fun cs(c,j)=>cs.setIfInBounds (off+j) c) cs)) h (by
      rw[e1];have:=zmX off vs cs (by omega);rw[this];exact hr.setL e2 off) h1 h3
     refine⟨cs',?_,h5⟩;simp only[Instr.fill,hp];have hc:¬((decide (V.cells.size≠n)||decide (off+V.cells.size>cs.size))=true):=by rw[e1];simp;omega
     rw[if_neg hc];exact h4
    ·cases h
theorem zey(ev:Operand→AV):∀(l:List (Nat×Operand)),(Wr ev l).map (·.1)=l.map (·.1)
 |[]=>rfl
 |(i,x)::r=>by simp[Wr,zey ev r]
theorem zex{ev:Operand→AV}{ρ:Operand→Value}(h:∀x,Rel L R (ev x) (ρ x)):∀(l:List (Nat×Operand)),RelL L R ((Wr ev l).map (·.2)) (l.map fun p=>ρ p.2)
 |[]=>rfl
 |(_i,x)::r=>⟨_,_,rfl,h x,zex h r⟩
theorem zg3(ρ:Operand→Value):∀(l:List (Nat×Operand)),zmB (fun x=>some (ρ x)) l=some (l.map fun p=>(p.1,ρ p.2))
 |[]=>rfl
 |(i,x)::r=>by simp[zmB,zg3 ρ r]
theorem zg1(ρ:Operand→Value):∀(l:List Operand),zf7 (fun x=>some (ρ x)) l=some (l.map ρ)
 |[]=>rfl
 |x::r=>by simp[zf7,zg1 ρ r]
theorem XL{ev:Operand→AV}{ρ:Operand→Value}(h:∀x,Rel L R (ev x) (ρ x)):∀(l:List Operand),RelL L R (l.map ev) (l.map ρ)
 |[]=>rfl
 |x::r=>⟨_,_,rfl,h x,XL h r⟩
theorem Xz{t:TypeId}{cs:List AV}(h:zgt P t=some cs):∃vs,zjl P t=some vs∧RelL L R cs vs:=by
 unfold zgt at h;split at h
 ·rename_i vs hv;cases h;exact⟨vs,hv,zbJ vs⟩
 ·cases h
theorem zpV{t:TypeId}{parts:List (Nat×AV)}{v:AV}{parts':List (Nat×Value)}(h:znq P t parts=some v)(h1:parts.map (·.1)=parts'.map (·.1))
  (h2:RelL L R (parts.map (·.2)) (parts'.map (·.2))):∃V,WP P t parts'=some V∧Rel L R v V:=by
 have zi:∀{z:List AV},zgt P t=some z→∃i zv,P.info? t=some i∧i.zero=some zv∧RelL L R z zv.cells.toList:=by
  intro z hz;obtain⟨vs,e1,e2⟩:=Xz (L:=L) (R:=R) hz;unfold zjl at e1;split at e1
  ·rename_i i hi;split at e1
   ·rename_i zv hzv;cases e1;exact⟨i,zv,hi,hzv,e2⟩
   ·cases e1
  ·cases e1
 unfold znq at h;split at h
 ·rename_i fields z hu hz;obtain⟨i,zv,e1,e2,e3⟩:=zi hz;split at h
  ·rename_i places hp;split at h
   ·rename_i cs hf;cases h;obtain⟨cs',e4,e5⟩:=zaT hf e3 h1 h2;exact⟨.agg cs',by simp only[WP,e1,hu,e2,hp,e4],⟨cs'.toList,rfl,e5⟩⟩
   ·cases h
  ·cases h
 ·rename_i n elem z hu hz;obtain⟨i,zv,e1,e2,e3⟩:=zi hz;split at h
  ·rename_i size hs;split at h
   ·rename_i cs hf;cases h;obtain⟨cs',e4,e5⟩:=zaT hf e3 h1 h2;exact⟨.agg cs',by simp only[WP,e1,hu,e2,hs,e4],⟨cs'.toList,rfl,e5⟩⟩
   ·cases h
  ·cases h
 ·cases h
theorem RoRow.row{full:Bool}{n:Nat}{V:Value}{C:List Value→Prop}(h:RoRow R full n V C):∃a cap,V=.slice a n cap:=by
 rcases h with⟨rfl,a,cap,h,_⟩|⟨b,off,cap,cs,T,fr,seg,tl,h,_⟩
 ·exact⟨a,cap,h⟩
 ·exact⟨_,cap,h⟩
theorem RoRow.at_{full:Bool}{n:Nat}{V:Value}{C:List Value→Prop}(h:RoRow R full n V C)(hn:0<n):
  ∃b off cap cs T fr seg tl,V=.slice (some ⟨b,off,none⟩) n cap∧R b=some (.cells cs T fr)∧cs.toList.drop off=seg++tl∧C seg:=by
 rcases h with⟨rfl,_⟩|⟨b,off,cap,cs,T,fr,seg,tl,h1,_,_,h2,h3,h4⟩
 ·omega
 ·exact⟨b,off,cap,cs,T,fr,seg,tl,h1,h2,h3,h4⟩
theorem zm{i:Int}{n:Nat}:inIx i n=true↔0≤i∧i<(n:Int):=by simp[inIx]
theorem zE{lo hi:Int}{n:Nat}:zj lo hi n=true↔0≤lo∧lo≤hi∧hi≤(n:Int):=by simp[zj,and_assoc]
theorem zsX{G:List Res}{h:Heap}{R:Ro}{v:AV}{V:Value}{n:Int}(hn:zis h v=some n)(hr:Rel (look G h) R v V):
  ∃a k cap,V=.slice a k cap∧n=(k:Int):=by
 unfold zis at hn;split at hn
 ·cases hn;simp only[Rel]at hr;exact⟨none,0,0,hr,rfl⟩
 ·rename_i i;split at hn
  ·rename_i o ho;cases hn;obtain⟨f,h1,h2,h3⟩:=hr;obtain⟨o',r,h4,h5,rfl⟩:=zr h1;rw[ho]at h4;cases h4;cases hv:r.virt
   ·exact⟨_,_,_,h3 hv,rfl⟩
   ·have:=h2 hv;simp only at this;exact⟨_,_,_,this.2,by rw[this.1]⟩
  ·cases hn
 ·rename_i i;split at hn
  ·rename_i o ho;cases hn;obtain⟨f,h1,h2,h2',h3⟩:=hr;obtain⟨o',r,h4,h5,rfl⟩:=zr h1;rw[ho]at h4;cases h4;exact⟨_,_,_,h3,rfl⟩
  ·cases hn
 ·cases hn;obtain⟨f,_,h1,h2,h3,a,cap,rfl,_⟩:=hr;exact⟨a,_,cap,rfl,by omega⟩
 all_goals first
  |(cases hn;done)
  |(
   simp only[Option.some.injEq]at hn;subst hn;simp only[Rel]at hr;first
    |(obtain⟨a,cap,h⟩:=hr.row;exact⟨a,_,cap,h,rfl⟩)
    |(obtain⟨a,cap,h⟩:=hr.2.row;exact⟨a,_,cap,h,rfl⟩))
theorem zsu{l:List UInt8}{lo hi:Option AV}{v:AV}{lo' hi':Option Value}(h:ztZ l lo hi=some (true,v))
  (hlo:match lo,lo' with|none,none=>True|some x,some X=>Rel L R x X|_,_=>False) (hhi:match hi,hi' with|none,none=>True|some x,some X=>Rel L R x X|_,_=>False):
  ∃c V,zhZ (bs l) lo' hi'=some (c,V)∧jk c∧Rel L R v V:=by
 unfold ztZ at h;split at h
 ·cases h;cases lo' with
  |some _=>exact hlo.elim
  |none=>cases hi' with
   |some _=>exact hhi.elim
   |none=>exact⟨_,_,rfl,trivial,rfl⟩
 ·rename_i k n;simp only[Option.some.injEq,Prod.mk.injEq]at h;obtain⟨h1,rfl⟩:=h;have h1:=zE.1 h1;cases lo' with
  |none=>exact hlo.elim
  |some X=>cases hi' with
   |some _=>exact hhi.elim
   |none=>simp only[Rel]at hlo;subst hlo;exact⟨_,_,rfl,by(simp only[jk,Ks];try omega),by simp only[Rel,Ks]⟩
 ·rename_i k n;simp only[Option.some.injEq,Prod.mk.injEq]at h;obtain⟨h1,rfl⟩:=h;have h1:=zE.1 h1;cases lo' with
  |some _=>exact hlo.elim
  |none=>cases hi' with
   |none=>exact hhi.elim
   |some X=>simp only[Rel]at hhi;subst hhi;exact⟨_,_,rfl,by(simp only[jk,Ks];try omega),by simp only[Rel,Ks]⟩
 ·rename_i k n k' n';simp only[Option.some.injEq,Prod.mk.injEq]at h;obtain⟨h1,rfl⟩:=h;have h1:=zE.1 h1;cases lo' with
  |none=>exact hlo.elim
  |some X=>cases hi' with
   |none=>exact hhi.elim
   |some Y=>simp only[Rel]at hlo hhi;subst hlo hhi;exact⟨_,_,rfl,by(simp only[jk,Ks];try omega),by simp only[Rel,Ks]⟩
 ·cases h
end
end Go.Am
