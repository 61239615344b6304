/-
  A part of the proof of the laws.
-/
import Derived.Test.YtpgmpcjbndpblaaGreatDoorAm4
namespace Go.Am
open Go Go.RowKit Go.Vc
section
variable {P : Program} {L : Lk} {R : Ro}
theorem ziZ{k:IntKind}{n:Int}{v:AV}(h:znn k n=(true,v)):∃m:Vc.Mode,∃c V,m.int k n=(c,V)/\jm c/\Rel L R v V:=by
 unfold znn at h;split at h
 ·simp only[Prod.mk.injEq]at h;obtain⟨h1,rfl⟩:=h;exact⟨.exact,_,_,rfl,yv.1 h1,rfl⟩
 ·simp only[Prod.mk.injEq]at h;obtain⟨-,rfl⟩:=h;exact⟨.wrap,_,_,rfl,trivial,rfl⟩
theorem zji(a b:Int):(a==b)=decide (a=b):=by by_cases h:a=b<;>simp[h]
theorem ztW(a b:Int):(a !=b)=!decide (a=b):=by by_cases h:a=b<;>simp[h]
theorem zfK(a b:uBi):(a==b)=decide (a=b):=by by_cases h:a=b<;>simp[h]
theorem zfL(a b:Bool):(a==b)=decide (a=b):=by cases a<;>cases b<;>rfl
theorem zcN{op:BinOp}{k:IntKind}{a b:Int}{v:AV}(h:zn5 op k a b=some (true,v)):
  ∃m:Vc.Mode,∃c V,zlY m op k a b=some (c,V)/\jm c/\Rel L R v V:=by
 unfold zn5 at h;split at h;case h_4|h_5=>
  simp only[Option.some.injEq,Prod.mk.injEq,mF,decide_eq_true_eq,ze]at h;first
   |(obtain⟨⟨⟨h1,h2⟩,h3⟩,rfl⟩:=h;exact⟨.exact,_,_,rfl,⟨h1,h2,yv.1 h3⟩,rfl⟩)
   |(obtain⟨⟨h1,h2⟩,rfl⟩:=h;exact⟨.exact,_,_,rfl,And.intro h1 h2,rfl⟩)
 case h_6|h_7|h_8=>cases h;exact⟨.exact,none,_,rfl,trivial,rfl⟩
 case h_9=>
  split at h
  ·rename_i cc hc;simp only[Option.some.injEq,Prod.mk.injEq,true_and]at h;subst h;refine⟨.exact,none,.bool cc,?_,trivial,rfl⟩;unfold zv3 at hc;split at hc<;>simp only[Option.some.injEq,reduceCtorEq]at hc<;>subst hc<;>simp only[zlY,zji,ztW]
  ·cases h
 all_goals
  simp only[Option.some.injEq]at h;obtain⟨m,c,V,h1,h2,h3⟩:=ziZ (L:=L) (R:=R) h;exact⟨m,c,V,by simp only[zlY,h1],h2,h3⟩
theorem zn2{op:BinOp}{a b:uBi}{v:AV}(h:zjt op a b=some (true,v)):
  ∃c V,zn3 op (bl (bs a)) (bl (bs b))=some (c,V)/\jm c/\Rel L R v V:=by
 simp only[X1];unfold zjt at h;split at h<;>simp only[Option.some.injEq,Prod.mk.injEq,true_and,reduceCtorEq]at h
 ·obtain⟨h1,rfl⟩:=h;have h1:=QB.1 h1;exact⟨_,_,rfl,by show _<=_;omega,rfl⟩
 all_goals
  subst h;exact⟨_,_,rfl,trivial,by simp only[Rel,zfK]⟩
theorem zoV:∀{fs:List Field}{n:Nat}{xs ys:List AV}{Xs Ys:List Value}{b:Bool}{d0:Nat},zi3 P fs n xs ys=some b->
  RelL L R xs (Xs.drop n)->RelL L R ys (Ys.drop n)->X4 P (qr P (d0+1)) Xs Ys fs=some b:=by
 intro fs;induction fs with
 |nil=>intro n xs ys Xs Ys b d0 he _ _;cases xs<;>cases ys<;>simp only[zi3,reduceCtorEq,Option.some.injEq]at he;subst he;rfl
 |cons f r ih=>
  intro n xs ys Xs Ys b d0 he rx ry
  match xs,ys,he,rx,ry with
  |[],_,he,_,_=>simp[zi3]at he
  |x::xr,[],he,_,_=>simp[zi3]at he
  |x::xr,y::yr,he,rx,ry=>
   obtain⟨X,Xr,e1,r1,r2⟩:=rx;obtain⟨Y,Yr,e2,r3,r4⟩:=ry;have eX:Xs[n]? =some X:=by have:=congrArg (·[0]?) e1;simpa[List.getElem?_drop]using this
   have eY:Ys[n]? =some Y:=by have:=congrArg (·[0]?) e2;simpa[List.getElem?_drop]using this
   have dX:Xs.drop (n+1)=Xr:=by have:=congrArg (List.drop 1) e1;simpa[List.drop_drop,Nat.add_comm]using this
   have dY:Ys.drop (n+1)=Yr:=by have:=congrArg (List.drop 1) e2;simpa[List.drop_drop,Nat.add_comm]using this
   simp only[zi3]at he;split at he
   ·rename_i c h1 h2 h3 h4;have h1:=mD h1;have ih':=ih (d0:=d0) h4 (by rw[dX];exact r2) (by rw[dY];exact r4);have key:∃d,zu P f.type=some false/\qr P (d0+1) f.type X Y=some d/\b=(d&&c):=by
     split at he
     ·rename_i p q hu;cases he;simp only[Rel]at r1 r3;subst r1 r3;exact⟨decide (p=q),by simp[zu,hu],by simp only[qr,hu,zfL],rfl⟩
     ·rename_i kk k p k' q hu;split at he
      ·rename_i hk;cases he;simp only[Rel]at r1 r3;subst r1 r3;exact⟨decide (p=q),by simp[zu,hu],by simp only[qr,hu,hk,if_true,zji],rfl⟩
      ·cases he
     ·rename_i p q hu;cases he;simp only[Rel]at r1 r3;subst r1 r3;exact⟨decide (p=q),by simp[zu,hu],by simp only[qr,hu,X1,zfK],rfl⟩
     ·cases he
    obtain⟨d,hagg,heq,rfl⟩:=key;have pX:jn P f.type Xs f.offset=some X:=by unfold jn;rw[hagg,h3,h1];exact eX
    have pY:jn P f.type Ys f.offset=some Y:=by unfold jn;rw[hagg,h3,h1];exact eY
    cases r with
    |nil=>
     have hc:c=true:=by cases xr<;>cases yr<;>simp only[zi3,reduceCtorEq,Option.some.injEq]at h4;exact h4.symm
     subst hc;simp only[X4,h2,pX,pY,heq,uAs];rfl
    |cons g s=>
     rw[X4]
     ·simp only[h2,pX,pY,heq,ih'];rfl
     ·intro hh;cases hh
   ·cases he
theorem zhA{F:TypeId->Value->Value->Option Bool}{xs ys:List Value}{f:Field}{r:List Field}{b c:Bool}(h1:X4 P F xs ys [f]=some b)(h2:X4 P F xs ys r=some c):
  X4 P F xs ys (f::r)=some (b&&c):=by
 cases r with
 |nil=>simp only[X4,Option.some.injEq]at h2;subst h2;rw[uAs];exact h1
 |cons g s=>
  rw[X4]at h1;rw[X4]
  ·split at h1
   ·cases h1
   ·rename_i hn;rw[if_neg hn];split at h1
    ·rename_i a b' ha hb;simp only[h1,h2]
    ·cases h1
  ·intro hh;cases hh
theorem zvh{t:TypeId}{x y:AV}{X Y:Value}{b:Bool}{d:Nat}(h:eq1 P t x y=some b)(hx:Rel L R x X)(hy:Rel L R y Y):zu P t=some false/\qr P (d+1) t X Y=some b:=by
 unfold eq1 at h;split at h
 ·rename_i p q hu;cases h;simp only[Rel]at hx hy;subst hx hy;exact⟨by simp[zu,hu],by simp only[qr,hu,zfL]⟩
 ·rename_i kk k p k' q hu;split at h
  ·rename_i hk;cases h;simp only[Rel]at hx hy;subst hx hy;exact⟨by simp[zu,hu],by simp only[qr,hu,hk,if_true,zji]⟩
  ·cases h
 ·rename_i p q hu;cases h;simp only[Rel]at hx hy;subst hx hy;exact⟨by simp[zu,hu],by simp only[qr,hu,X1,zfK]⟩
 ·cases h
theorem ztS:∀{fs:List Field}{n:Nat}{xs ys:List AV}{Xs Ys:List Value}{b:Bool},zqd P fs n xs ys=some b->
  RelL L R xs (Xs.drop n)->RelL L R ys (Ys.drop n)->X4 P (qr P 7) Xs Ys fs=some b:=by
 intro fs;induction fs with
 |nil=>intro n xs ys Xs Ys b he _ _;cases xs<;>cases ys<;>simp only[zqd,reduceCtorEq,Option.some.injEq]at he;subst he;rfl
 |cons f r ih=>
  intro n xs ys Xs Ys b he rx ry;simp only[zqd]at he;split at he
  ·rename_i k gs h1 h2 h3 h4;split at he
   ·rename_i b1 c1 g1 g2 g3 g4 g5;cases he;have h1:=mD h1;have g2:=mW g2;have g3:=mW g3;have ih':=ih g5 (by have:=rx.drop (k+1);rwa [mY]at this) (by have:=ry.drop (k+1);rwa [mY]at this);have hagg:zu P f.type=some true:=by simp[zu,h4]
    have e:=zoV (Xs:=(Xs.drop n).take (k+1)) (Ys:=(Ys.drop n).take (k+1)) (d0:=5) g4 (by simpa using rx.take (k+1)) (by simpa using ry.take (k+1));refine zhA ?_ ih';have pX:jn P f.type Xs f.offset=some (.agg ((Xs.drop n).take (k+1)).toArray):=by unfold jn;rw[hagg,h3,h1]
    have pY:jn P f.type Ys f.offset=some (.agg ((Ys.drop n).take (k+1)).toArray):=by unfold jn;rw[hagg,h3,h1]
    have e7:qr P 7 f.type (.agg ((Xs.drop n).take (k+1)).toArray) (.agg ((Ys.drop n).take (k+1)).toArray)=some b1:=by simp only[qr,h4,g1,nF,if_false];exact e
    simp only[X4,h2,pX,pY,e7,nF,if_false]
   ·cases he
  ·rename_i _ h1 h2 h3 _;split at he
   ·rename_i x xr y yr;split at he
    ·rename_i b1 c1 g1 g2;cases he;have h1:=mD h1;obtain⟨X,Xr,e1,r1,r2⟩:=rx;obtain⟨Y,Yr,e2,r3,r4⟩:=ry;have eX:Xs[n]? =some X:=by have:=congrArg (·[0]?) e1;simpa[List.getElem?_drop]using this
     have eY:Ys[n]? =some Y:=by have:=congrArg (·[0]?) e2;simpa[List.getElem?_drop]using this
     have dX:Xs.drop (n+1)=Xr:=by have:=congrArg (List.drop 1) e1;simpa[List.drop_drop,Nat.add_comm]using this
     have dY:Ys.drop (n+1)=Yr:=by have:=congrArg (List.drop 1) e2;simpa[List.drop_drop,Nat.add_comm]using this
     obtain⟨hagg,heq⟩:=zvh (d:=6) g1 r1 r3;have pX:jn P f.type Xs f.offset=some X:=by unfold jn;rw[hagg,h3,h1];exact eX
     have pY:jn P f.type Ys f.offset=some Y:=by unfold jn;rw[hagg,h3,h1];exact eY
     refine zhA ?_ (ih g2 (by rw[dX];exact r2) (by rw[dY];exact r4));simp only[X4,h2,pX,pY,heq,nF,if_false]
    ·cases he
   ·cases he
  ·cases he
theorem Vz{α:Type}{l:List α}{c:Bool}(h:zeS l=some c):c=false/\l.length≠0:=by cases l<;>cases h;exact⟨rfl,by simp⟩
theorem RoRow.sliced{R:Ro}{full:Bool}{n:Nat}{V:Value}{C:List Value->Prop}(h:RoRow R full n V C)(hn:n≠0):∃a n cp,V=.slice (some a) n cp:=by
 rcases h with⟨h,_⟩|⟨b,off,cap,cs,T,fr,seg,tl,h,_⟩
 ·exact absurd h hn
 ·exact⟨_,_,_,h⟩
theorem zc7{x:AV}{X:Value}{c:Bool}(h:zfg x=some c)(hx:Rel L R x X):∃a n cp,X=.slice a n cp/\c=a.isNone:=by
 cases x<;>simp only[zfg,reduceCtorEq]at h;case nils=>cases h;exact⟨none,0,0,hx,rfl⟩
 case rwp=>cases h;obtain⟨f,_,_,_,rfl⟩:=hx;exact⟨_,_,_,rfl,rfl⟩
 case rwf=>cases h;obtain⟨f,_,_,_,rfl⟩:=hx;exact⟨_,_,_,rfl,rfl⟩
 case rob=>obtain⟨rfl,hn⟩:=Vz h;obtain⟨a,n,cp,rfl⟩:=RoRow.sliced hx hn;exact⟨_,_,_,rfl,rfl⟩
 case roi=>obtain⟨rfl,hn⟩:=Vz h;obtain⟨a,n,cp,rfl⟩:=RoRow.sliced hx hn;exact⟨_,_,_,rfl,rfl⟩
 case ros=>obtain⟨rfl,hn⟩:=Vz h;obtain⟨a,n,cp,rfl⟩:=RoRow.sliced hx hn;exact⟨_,_,_,rfl,rfl⟩
 case rov=>obtain⟨rfl,hn⟩:=Vz h;obtain⟨a,n,cp,rfl⟩:=RoRow.sliced hx.2 hn;exact⟨_,_,_,rfl,rfl⟩
 case rws=>
  split at h
  ·rename_i hd;cases h;have hd:=of_decide_eq_true hd;obtain⟨f,_,_,_,_,a,cp,rfl,_,p5⟩:=hx;obtain⟨_,rfl⟩:=p5 hd;exact⟨_,_,_,rfl,rfl⟩
  ·cases h
 case rwc=>
  split at h
  ·rename_i hd;cases h;have hd:=of_decide_eq_true hd;obtain⟨f,_,⟨_,_,_,a,cp,rfl,_,p5⟩,_⟩:=hx;obtain⟨_,rfl⟩:=p5 hd;exact⟨_,_,_,rfl,rfl⟩
  ·cases h
theorem zt5{op:BinOp}{t:TypeId}{x y v:AV}{X Y:Value}(h:zvq P op t x y=some (true,v))(hx:Rel L R x X)(hy:Rel L R y Y):
  ∃m:Vc.Mode,∃c V,zam P m op t X Y=some (c,V)/\jm c/\Rel L R v V:=by
 unfold zvq at h;split at h
 ·rename_i k k' b;obtain⟨n,hn,rfl⟩:=hx;simp only[Rel]at hy;subst hy;split at h
  ·rename_i hk hb;have hb:b<=0:=by simpa using hb
   cases h;obtain⟨m,c,V,h1,h2,h3⟩:=zcN (L:=L) (R:=R) (op:=.eql) (k:=k) (a:=n) (b:=b) (v:=.bool (decide (n=b))) rfl;rw[decide_eq_false (by omega)]at h3;exact⟨m,c,V,by simp only[zam,hk,if_true,h1],h2,h3⟩
  ·rename_i hk hb;have hb:b<=0:=by simpa using hb
   cases h;obtain⟨m,c,V,h1,h2,h3⟩:=zcN (L:=L) (R:=R) (op:=.neq) (k:=k) (a:=n) (b:=b) (v:=.bool (!decide (n=b))) rfl;rw[decide_eq_false (by omega)]at h3;exact⟨m,c,V,by simp only[zam,hk,if_true,h1],h2,h3⟩
  ·cases h
 ·rename_i k a k' b;simp only[Rel]at hx hy;subst hx hy;split at h
  ·simp only[Option.some.injEq,Prod.mk.injEq,mF,ze,decide_eq_true_eq,Nat.ble_eq]at h;obtain⟨⟨h1,h2⟩,rfl⟩:=h;exact⟨.exact,_,_,rfl,⟨h1,by omega⟩,rfl⟩
  ·simp only[Option.some.injEq,Prod.mk.injEq,mF,ze,decide_eq_true_eq,Nat.ble_eq]at h;obtain⟨⟨h1,h2⟩,rfl⟩:=h;exact⟨.exact,_,_,rfl,⟨h1,by omega⟩,rfl⟩
  ·split at h
   ·rename_i h1 h2 _ hk;obtain⟨m,c,V,g1,g2,g3⟩:=zcN (L:=L) (R:=R) h;refine⟨m,c,V,?_,g2,g3⟩;cases op<;>first|exact (h1 rfl).elim|exact (h2 rfl).elim|simp only[zam,hk,if_true,g1]
   ·cases h
 ·simp only[Rel]at hx hy;subst hx hy;obtain⟨c,V,h1,h2,h3⟩:=zn2 (L:=L) (R:=R) h;exact⟨.exact,c,V,by simp only[zam,h1],h2,h3⟩
 ·rename_i a b;simp only[Rel]at hx hy;subst hx hy;split at h<;>simp only[Option.some.injEq,Prod.mk.injEq,true_and,reduceCtorEq]at h;all_goals
   rename_i hu;subst h;exact⟨.exact,none,_,by simp only[zam,hu,zn4];rfl,trivial,by simp only[Rel,zfL]⟩
 ·rename_i xs ys;obtain⟨Xs,rfl,hx⟩:=hx;obtain⟨Ys,rfl,hy⟩:=hy;have key:∀{c:Bool},zsh P t xs ys=some c->P.eqGuardType P.depth t=false/\qr P 8 t (.agg Xs.toArray) (.agg Ys.toArray)=some c:=by
   intro c hc;unfold zsh at hc;split at hc
   ·rename_i fs hu hg hs;refine⟨hg,?_⟩;simp only[qr,hu,hs,nF,if_false];split at hc
    ·rename_i b hb;cases hc;exact zoV (d0:=6) hb (by simpa using hx) (by simpa using hy)
    ·exact ztS hc (by simpa using hx) (by simpa using hy)
   ·cases hc
  split at h<;>simp only[Option.some.injEq,Prod.mk.injEq,true_and,reduceCtorEq]at h;all_goals
   rename_i c hc;obtain⟨h1,h2⟩:=key hc;subst h;exact⟨.exact,none,_,by simp only[zam,h1,h2,nF,if_false],trivial,rfl⟩
 ·have hy:Y=.slice none 0 0:=hy;subst hy;split at h
  ·rename_i e c hu hc;cases h;obtain⟨a,n,cp,rfl,rfl⟩:=zc7 hc hx;exact⟨.exact,none,_,by simp only[zam,hu],trivial,rfl⟩
  ·rename_i e c hu hc;cases h;obtain⟨a,n,cp,rfl,rfl⟩:=zc7 hc hx;exact⟨.exact,none,_,by simp only[zam,hu],trivial,rfl⟩
  ·cases h
 ·cases h
theorem zkx(v:Value):Rel L R (zmS v) v:=by
 unfold zmS;split<;>(try exact rfl)
 ·split
  ·rename_i f first cap h1 h2
   exact⟨[],[],by simp[Array.toList_eq_nil_iff.1 h1,Array.toList_eq_nil_iff.1 h2],rfl,rfl⟩
  ·trivial
 ·trivial
theorem Vw:∀(l:List Value),RelL L R (l.map zmS) l
 |[]=>rfl
 |v::r=>⟨v,r,rfl,zkx v,Vw r⟩
theorem zoB(v:Value):Rel L R (ofV v) v:=by
 unfold ofV;split
 ·rename_i cs;exact⟨cs.toList,rfl,Vw _⟩
 ·exact zkx v
def GlobOK(gl:Glob)(R:Ro):Prop:=∀g,Rel (fun _=>none) R (jC gl g) (.pointer (some ⟨g,0,none⟩))
theorem JQ:∀(gl:Glob)(g:Nat),idsV (jC gl g)=[]
 |[],_=>rfl
 |(h,v)::r,g=>by
  simp only[jC];split
  ·rfl
  ·exact JQ r g
theorem zaV{gl:Glob}(hg:GlobOK gl R){s:Slots}{a:Act}(hs:∀t,Rel L R (get s t) (a.tmps.getD t undef))(x:Operand):Rel L R (opnd gl s x) (a.eval x):=by
 cases x with
 |tmp t=>exact hs t
 |const v=>exact zoB v
 |global g=>exact zh (fun _ _ h=>h) _ _ (by simp[opnd,JQ]) (hg g)
 |func f=>exact⟨[],[],rfl,rfl,rfl⟩
theorem Kl{t:TypeId}{cs:List AV}{off:Nat}{v:AV}{vs:List Value}(h:Km P t cs off=some v)(hr:RelL L R cs vs):
  ∃V n,jn P t vs off=some V/\Rel L R v V/\zB P t=some n/\off+n<=vs.length:=by
 unfold Km at h;split at h
 ·rename_i n ha hs;split at h
  ·rename_i hle;cases h;exact⟨_,n,by simp only[jn,ha,hs],⟨_,rfl,(hr.drop off).take n⟩,hs,by have:=mW hle;rw[hr.length]at this;exact this⟩
  ·cases h
 ·rename_i ha hs;obtain⟨V,e,hv⟩:=hr.get h;exact⟨V,1,by simp only[jn,ha,hs];exact e,hv,hs,(mH.1 e).1⟩
 ·cases h
theorem zht(off:Nat):∀(vs:List Value)(k:Nat)(cs:Array Value)(p:Nat),off+k+vs.length<=cs.size->
  ((vs.zipIdx k).foldl (fun(cs:Array Value)(x:Value×Nat)=>cs.setIfInBounds (off+x.2) x.1) cs)[p]? =if off+k<=p/\p<off+k+vs.length then vs[p-(off+k)]? else cs[p]?
 |[],k,cs,p,_=>by rw[if_neg (by simp)];rfl
 |v::r,k,cs,p,hle=>by
  simp only[List.zipIdx_cons,List.foldl_cons];rw[zht off r (k+1) _ p (by simp at hle⊢;omega)];by_cases h1:off+(k+1)<=p/\p<off+(k+1)+r.length
  ·rw[if_pos h1,if_pos (by simp;omega),show p-(off+k)=(p-(off+(k+1)))+1 by omega];simp
  ·rw[if_neg h1];by_cases h2:p=off+k
   ·subst h2;rw[if_pos (by simp)];simp only[mJ]at hle;have h3:off+k<cs.size:=by omega
    simp[h3]
   ·rw[if_neg (by simp;omega),uAz (by omega)]
theorem znk(off:Nat)(vs:List Value)(cs:Array Value)(hle:off+vs.length<=cs.size):
  (vs.toArray.zipIdx.foldl (fun cs x=>cs.setIfInBounds (off+x.2) x.1) cs).toList=cs.toList.take off++vs++cs.toList.drop (off+vs.length):=by
 rw[<-Array.foldl_toList];apply uA7;intro p;have h:=zht off vs 0 cs p (by omega);simp only[uAf]at h;have h':((vs.toArray.zipIdx.toList).foldl (fun(cs:Array Value)(x:Value×Nat)=>cs.setIfInBounds (off+x.2) x.1) cs).toList[p]? =if off<=p/\p<off+vs.length then vs[p-off]? else cs[p]? :=by rw[uBb,<-h];simp
 rw[h'];have hsz:(cs.toList.take off).length=off:=by simp;omega
 by_cases h1:off<=p/\p<off+vs.length
 ·rw[if_pos h1,mP,nC (by omega),hsz,mU (by omega)]
 ·rw[if_neg h1];by_cases h2:p<off
  ·rw[mP,mU (by omega),uBd,if_pos h2];simp
  ·rw[nC (by simp;omega)];simp only[mM,hsz,nI];rw[show off+vs.length+(p-(off+vs.length))=p by omega];simp
theorem zbo{place:Nat->Option (Nat×Nat)}:∀{parts:List (Nat×AV)}{l l':List AV}{cs:Array Value}{parts':List (Nat×Value)},
  zfv place l parts=some l'->RelL L R l cs.toList->parts.map (·.1)=parts'.map (·.1)->RelL L R (parts.map (·.2)) (parts'.map (·.2))->
  ∃cs',Instr.fill place cs parts'=some cs'/\RelL L R l' cs'.toList:=by
 intro parts;induction parts with
 |nil=>
  intro l l' cs parts' h hr h1 _;simp only[zfv,Option.some.injEq]at h;subst h;cases parts' with
  |nil=>exact⟨cs,rfl,hr⟩
  |cons _ _=>simp at h1
 |cons p r ih=>
  intro l l' cs parts' h hr h1 h2;obtain⟨i,v⟩:=p;cases parts' with
  |nil=>simp at h1
  |cons q r'=>
   obtain⟨i',V⟩:=q;simp only[uAE,List.cons.injEq]at h1 h2;obtain⟨rfl,h1⟩:=h1;obtain⟨u,us,e,hv,h3⟩:=h2;simp only[List.cons.injEq]at e;obtain⟨rfl,rfl⟩:=e;simp only[zfv]at h;split at h
   ·cases h
   ·rename_i off n hp;split at h
    ·rename_i hb hle ho;have hb:=mD hb;have hle:=mW hle;obtain⟨vs,e1,e2,_⟩:=hv.cells ho;have hlen:vs.length=n:=by rw[<-e2.length,hb]
     have hsz:l.length=cs.size:=by rw[hr.length];simp
     obtain⟨cs',h4,h5⟩:=ih (cs:=(V.cells.zipIdx.foldl (fun cs(c,j)=>cs.setIfInBounds (off+j) c) cs)) h (by
      rw[e1];have:=znk off vs cs (by omega);rw[this];exact hr.setL e2 off) h1 h3
     refine⟨cs',?_,h5⟩;simp only[Instr.fill,hp];have hc:¬((decide (V.cells.size≠n)||decide (off+V.cells.size>cs.size))=true):=by rw[e1];simp;omega
     rw[if_neg hc];exact h4
    ·cases h
theorem zeW(ev:Operand->AV):∀(l:List (Nat×Operand)),(W3 ev l).map (·.1)=l.map (·.1)
 |[]=>rfl
 |(i,x)::r=>by simp[W3,zeW ev r]
theorem zeV{ev:Operand->AV}{ρ:Operand->Value}(h:∀x,Rel L R (ev x) (ρ x)):∀(l:List (Nat×Operand)),RelL L R ((W3 ev l).map (·.2)) (l.map fun p=>ρ p.2)
 |[]=>rfl
 |(_i,x)::r=>⟨_,_,rfl,h x,zeV h r⟩
theorem zhj(ρ:Operand->Value):∀(l:List (Nat×Operand)),zmX (fun x=>some (ρ x)) l=some (l.map fun p=>(p.1,ρ p.2))
 |[]=>rfl
 |(i,x)::r=>by simp[zmX,zhj ρ r]
theorem zhh(ρ:Operand->Value):∀(l:List Operand),zkF (fun x=>some (ρ x)) l=some (l.map ρ)
 |[]=>rfl
 |x::r=>by simp[zkF,zhh ρ r]
theorem Kk{ev:Operand->AV}{ρ:Operand->Value}(h:∀x,Rel L R (ev x) (ρ x)):∀(l:List Operand),RelL L R (l.map ev) (l.map ρ)
 |[]=>rfl
 |x::r=>⟨_,_,rfl,h x,Kk h r⟩
theorem X5{t:TypeId}{cs:List AV}(h:zgK P t=some cs):∃vs,zjE P t=some vs/\RelL L R cs vs:=by
 unfold zgK at h;split at h
 ·rename_i vs hv;cases h;exact⟨vs,hv,Vw vs⟩
 ·cases h
theorem zqw{t:TypeId}{parts:List (Nat×AV)}{v:AV}{parts':List (Nat×Value)}(h:znV P t parts=some v)(h1:parts.map (·.1)=parts'.map (·.1))
  (h2:RelL L R (parts.map (·.2)) (parts'.map (·.2))):∃V,zal P t parts'=some V/\Rel L R v V:=by
 have zi:∀{z:List AV},zgK P t=some z->∃i zv,P.info? t=some i/\i.zero=some zv/\RelL L R z zv.cells.toList:=by
  intro z hz;obtain⟨vs,e1,e2⟩:=X5 (L:=L) (R:=R) hz;unfold zjE at e1;split at e1
  ·rename_i i hi;split at e1
   ·rename_i zv hzv;cases e1;exact⟨i,zv,hi,hzv,e2⟩
   ·cases e1
  ·cases e1
 unfold znV at h;split at h
 ·rename_i fields z hu hz;obtain⟨i,zv,e1,e2,e3⟩:=zi hz;split at h
  ·rename_i places hp;split at h
   ·rename_i cs hf;cases h;obtain⟨cs',e4,e5⟩:=zbo hf e3 h1 h2;exact⟨.agg cs',by simp only[zal,e1,hu,e2,hp,e4],⟨cs'.toList,rfl,e5⟩⟩
   ·cases h
  ·cases h
 ·rename_i n elem z hu hz;obtain⟨i,zv,e1,e2,e3⟩:=zi hz;split at h
  ·rename_i size hs;split at h
   ·rename_i cs hf;cases h;obtain⟨cs',e4,e5⟩:=zbo hf e3 h1 h2;exact⟨.agg cs',by simp only[zal,e1,hu,e2,hs,e4],⟨cs'.toList,rfl,e5⟩⟩
   ·cases h
  ·cases h
 ·cases h
theorem RoRow.row{full:Bool}{n:Nat}{V:Value}{C:List Value->Prop}(h:RoRow R full n V C):∃a cap,V=.slice a n cap:=by
 rcases h with⟨rfl,a,cap,h,_⟩|⟨b,off,cap,cs,T,fr,seg,tl,h,_⟩
 ·exact⟨a,cap,h⟩
 ·exact⟨_,cap,h⟩
theorem RoRow.at_{full:Bool}{n:Nat}{V:Value}{C:List Value->Prop}(h:RoRow R full n V C)(hn:0<n):
  ∃b off cap cs T fr seg tl,V=.slice (some ⟨b,off,none⟩) n cap/\R b=some (.cells cs T fr)/\cs.toList.drop off=seg++tl/\C seg:=by
 rcases h with⟨rfl,_⟩|⟨b,off,cap,cs,T,fr,seg,tl,h1,_,_,h2,h3,h4⟩
 ·omega
 ·exact⟨b,off,cap,cs,T,fr,seg,tl,h1,h2,h3,h4⟩
theorem zn{i:Int}{n:Nat}:inIx i n=true↔0<=i/\i<(n:Int):=by simp[inIx]
theorem zr{lo hi:Int}{n:Nat}:zj lo hi n=true↔0<=lo/\lo<=hi/\hi<=(n:Int):=by simp[zj,and_assoc]
theorem ztB{G:List Res}{h:Heap}{R:Ro}{v:AV}{V:Value}{n:Int}(hn:ziF h v=some n)(hr:Rel (look G h) R v V):
  ∃a k cap,V=.slice a k cap/\n=(k:Int):=by
 unfold ziF at hn;split at hn
 ·cases hn;simp only[Rel]at hr;exact⟨none,0,0,hr,rfl⟩
 ·rename_i i;split at hn
  ·rename_i o ho;cases hn;obtain⟨f,h1,h2,h3⟩:=hr;obtain⟨o',r,h4,h5,rfl⟩:=zq h1;rw[ho]at h4;cases h4;cases hv:r.virt
   ·exact⟨_,_,_,h3 hv,rfl⟩
   ·have:=h2 hv;simp only at this;exact⟨_,_,_,this.2,by rw[this.1]⟩
  ·cases hn
 ·rename_i i;split at hn
  ·rename_i o ho;cases hn;obtain⟨f,h1,h2,h2',h3⟩:=hr;obtain⟨o',r,h4,h5,rfl⟩:=zq h1;rw[ho]at h4;cases h4;exact⟨_,_,_,h3,rfl⟩
  ·cases hn
 ·cases hn;obtain⟨f,_,h1,h2,h3,a,cap,rfl,_⟩:=hr;exact⟨a,_,cap,rfl,by omega⟩
 all_goals first
  |(cases hn;done)
  |(
   simp only[Option.some.injEq]at hn;subst hn;simp only[Rel]at hr;first
    |(obtain⟨f,_,⟨h1,h2,h3,a,cap,rfl,_⟩,_⟩:=hr;exact⟨a,_,cap,rfl,by omega⟩)
    |(obtain⟨a,cap,h⟩:=hr.row;exact⟨a,_,cap,h,rfl⟩)
    |(obtain⟨a,cap,h⟩:=hr.2.row;exact⟨a,_,cap,h,rfl⟩))
theorem zta{l:uBi}{lo hi:Option AV}{v:AV}{lo' hi':Option Value}(h:zuF l lo hi=some (true,v))
  (hlo:match lo,lo' with|none,none=>True|some x,some X=>Rel L R x X|_,_=>False) (hhi:match hi,hi' with|none,none=>True|some x,some X=>Rel L R x X|_,_=>False):
  ∃c V,zid (bs l) lo' hi'=some (c,V)/\jm c/\Rel L R v V:=by
 unfold zuF at h;split at h
 ·cases h;cases lo' with
  |some _=>exact hlo.elim
  |none=>cases hi' with
   |some _=>exact hhi.elim
   |none=>exact⟨_,_,rfl,trivial,rfl⟩
 ·rename_i k n;simp only[Option.some.injEq,Prod.mk.injEq]at h;obtain⟨h1,rfl⟩:=h;have h1:=zr.1 h1;cases lo' with
  |none=>exact hlo.elim
  |some X=>cases hi' with
   |some _=>exact hhi.elim
   |none=>simp only[Rel]at hlo;subst hlo;exact⟨_,_,rfl,by(simp only[jm,X1];try omega),by simp only[Rel,X1]⟩
 ·rename_i k n;simp only[Option.some.injEq,Prod.mk.injEq]at h;obtain⟨h1,rfl⟩:=h;have h1:=zr.1 h1;cases lo' with
  |some _=>exact hlo.elim
  |none=>cases hi' with
   |none=>exact hhi.elim
   |some X=>simp only[Rel]at hhi;subst hhi;exact⟨_,_,rfl,by(simp only[jm,X1];try omega),by simp only[Rel,X1]⟩
 ·rename_i k n k' n';simp only[Option.some.injEq,Prod.mk.injEq]at h;obtain⟨h1,rfl⟩:=h;have h1:=zr.1 h1;cases lo' with
  |none=>exact hlo.elim
  |some X=>cases hi' with
   |none=>exact hhi.elim
   |some Y=>simp only[Rel]at hlo hhi;subst hlo hhi;exact⟨_,_,rfl,by(simp only[jm,X1];try omega),by simp only[Rel,X1]⟩
 ·cases h
theorem qM:∀(a b:List AV),idsL (a++b)=idsL a++idsL b
 |[],_=>rfl
 |v::r,b=>by simp[idsL,qM r b]
theorem VK:∀{l:List AV}{i:Nat}{v:AV},idsL l=[]->l[i]? =some v->idsV v=[]
 |[],_,_,_,h=>by simp at h
 |x::r,0,v,h0,h=>by simp at h;subst h;simp[idsL]at h0;exact h0.1
 |x::r,i+1,v,h0,h=>by simp[idsL]at h0;exact VK h0.2 (by simpa using h)
theorem zmC{v:AV}{V:Value}(h0:idsV v=[])(h1:zT v=true)(h:∃b off ce T fr u tl,V=.pointer (some ⟨b,off,none⟩)/\R b=some (.cells ce T fr)/\ce.toList.drop off=u::tl/\Rel L R v u):Rel L R (.rp v) V:=by
 cases v with
 |agg cs=>cases h1
 |_=>exact⟨h0,h1,h⟩
theorem J6{z:Nat}:∀{l:List AV}{cs:List Value},RelR L R z l cs->cs.length=l.length*z
 |[],cs,h=>by have h:cs=[]:=h;subst h;simp
 |x::r,cs,hr=>by
  have key:(∃a b,cs=a++b/\a.length=z/\RelR L R z r b)\/(∃u us,cs=u::us/\z=1/\RelR L R z r us):=by
   cases x with
   |agg xs=>obtain⟨a,b,h1,h2,h3,h4⟩:=hr;exact .inl ⟨a,b,h1,by rw[<-h3.length,h2],h4⟩
   |_=>obtain⟨u,us,h1,h2,h3,h4,h5⟩:=hr;exact .inr ⟨u,us,h1,h2,h5⟩
  rcases key with⟨a,b,rfl,h2,h3⟩|⟨u,us,rfl,rfl,h3⟩
  ·rw[mM,h2,J6 h3,mJ,uAm,uAt]
  ·rw[mJ,J6 h3,mJ];omega
theorem RelR_get'{z:Nat}:∀{l:List AV}{cs:List Value},RelR L R z l cs->∀{i:Nat}{v:AV},l[i]? =some v->
  (∃xs,v=.agg xs/\xs.length=z/\RelL L R xs ((cs.drop (i*z)).take z))\/(zT v=true/\z=1/\∃u,cs[i]? =some u/\Rel L R v u)
 |[],_,_,i,v,h=>by simp at h
 |x::r,cs,hr,i,v,h=>by
  have key:(∃xs a b,x=.agg xs/\cs=a++b/\xs.length=z/\RelL L R xs a/\RelR L R z r b)\/(∃u us,cs=u::us/\z=1/\zT x=true/\Rel L R x u/\RelR L R z r us):=by
   cases x with
   |agg xs=>obtain⟨a,b,h1,h2,h3,h4⟩:=hr;exact .inl ⟨xs,a,b,rfl,h1,h2,h3,h4⟩
   |_=>obtain⟨u,us,h1,h2,h3,h4,h5⟩:=hr;exact .inr ⟨u,us,h1,h2,h3,h4,h5⟩
  rcases key with⟨xs,a,b,rfl,rfl,h2,h3,h4⟩|⟨u,us,rfl,rfl,h3,h4,h5⟩
  ·have ha:a.length=z:=by rw[<-h3.length,h2]
   cases i with
   |zero=>simp only[uAY,Option.some.injEq]at h;subst h;refine .inl ⟨xs,rfl,h2,?_⟩;rw[Nat.zero_mul,nU,uAb (by omega),nH (by omega)];exact h3
   |succ i=>
    simp only[uAL]at h;have hd:((a++b).drop ((i+1)*z))=b.drop (i*z):=by rw[uAm,uAt,<-mY,<-ha,List.drop_left]
    rcases RelR_get' h4 h with⟨ys,e1,e2,e3⟩|⟨e1,e2,u,e3,e4⟩
    ·exact .inl ⟨ys,e1,e2,by rw[hd];exact e3⟩
    ·refine .inr ⟨e1,e2,u,?_,e4⟩;subst e2;rw[nC (by omega),ha];simpa using e3
  ·cases i with
   |zero=>simp only[uAY,Option.some.injEq]at h;subst h;exact .inr ⟨h3,rfl,u,rfl,h4⟩
   |succ i=>
    simp only[uAL]at h;rcases RelR_get' h5 h with⟨ys,e1,e2,e3⟩|⟨e1,e2,u',e3,e4⟩
    ·refine .inl ⟨ys,e1,e2,?_⟩;rw[show(i+1)*1=i*1+1 by omega,uA9];exact e3
    ·exact .inr ⟨e1,e2,u',by simpa using e3,e4⟩
theorem VF{t:TypeId}{v x:AV}(h:zhm P t v=some (true,x)):zu P t=some false/\zT v=true/\zT x=true/\(∀L R V,Rel L R v V->Rel L R x V)/\(idsV v=[]->idsV x=[]):=by
 unfold zhm at h;split at h
 ·rename_i hu;simp only[Option.some.injEq,Prod.mk.injEq]at h;obtain⟨h1,rfl⟩:=h;unfold zcp at h1;split at h1
  ·rename_i k n;simp only[kEq,decide_eq_true_eq]at h1;subst h1;exact⟨by simp[zu,hu],rfl,rfl,fun _ _ _ h=>h,fun h=>h⟩
  ·cases h1
 ·rename_i hu;simp only[Option.some.injEq,Prod.mk.injEq]at h;obtain⟨h1,rfl⟩:=h;split at h1
  ·exact⟨by simp[zu,hu],rfl,rfl,fun _ _ _ h=>h,fun h=>h⟩
  ·cases h1
 ·rename_i hu;simp only[Option.some.injEq,Prod.mk.injEq]at h;obtain⟨h1,rfl⟩:=h;split at h1
  ·exact⟨by simp[zu,hu],rfl,rfl,fun _ _ _ h=>h,fun h=>h⟩
  ·cases h1
 ·rename_i hu;split at h
  ·cases h;exact⟨by simp[zu,hu],rfl,rfl,fun _ _ _ h=>h,fun h=>h⟩
  ·cases h
 ·rename_i e hu;split at h
  ·simp only[Option.some.injEq,Prod.mk.injEq]at h;obtain⟨h1,rfl⟩:=h;refine⟨by simp[zu,hu],?_,rfl,?_,fun _=>rfl⟩
   ·unfold znd at h1;split at h1
    ·rfl
    ·rfl
    ·cases h1
   ·intro L R V hV;unfold znd at h1;split at h1
    ·rename_i f l;rcases hV with⟨a,b,c,d,_⟩|⟨b,off,cap,cs,T,fr,seg,tl,g1,_,g3⟩
     ·exact .inl ⟨a,b,c,d,fun h=>by cases h⟩
     ·exact .inr ⟨b,off,cap,cs,T,fr,seg,tl,g1,fun h=>(by cases h),g3⟩
    ·have hV:V=.slice none 0 0:=hV;exact .inl ⟨rfl,none,0,hV,fun h=>by cases h⟩
    ·cases h1
  ·rename_i k _ _;simp only[Option.some.injEq,Prod.mk.injEq]at h;obtain⟨h1,rfl⟩:=h;refine⟨by simp[zu,hu],?_,rfl,?_,fun _=>rfl⟩
   ·unfold znc at h1;split at h1
    ·rfl
    ·rfl
    ·cases h1
   ·intro L R V hV;unfold znc at h1;split at h1
    ·rename_i f k' l;simp only[kEq,decide_eq_true_eq]at h1;subst h1;rcases hV with⟨a,b,c,d,_⟩|⟨b,off,cap,cs,T,fr,seg,tl,g1,_,g3⟩
     ·exact .inl ⟨a,b,c,d,fun h=>by cases h⟩
     ·exact .inr ⟨b,off,cap,cs,T,fr,seg,tl,g1,fun h=>(by cases h),g3⟩
    ·have hV:V=.slice none 0 0:=hV;exact .inl ⟨rfl,none,0,hV,fun h=>by cases h⟩
    ·cases h1
  ·split at h
   ·cases h;exact⟨by simp[zu,hu],rfl,rfl,fun _ _ _ h=>h,fun h=>h⟩
   ·cases h;exact⟨by simp[zu,hu],rfl,rfl,fun _ _ _ h=>h,fun h=>h⟩
   ·cases h;exact⟨by simp[zu,hu],rfl,rfl,fun _ _ _ h=>h,fun h=>h⟩
   ·cases h
 ·cases h
theorem J2{cs:List AV}{k:Nat}(hk:k<cs.length):cs[k]? =some (zfO (.agg cs) k):=by simp only[zfO,mE hk]
theorem zc3{e:TypeId}{cs:List AV}:∀{n k:Nat}{xs:List AV},za3 P e (.agg cs) n k=some (true,xs)->k+xs.length<=cs.length->
  (∀L R vs,RelL L R cs vs->RelL L R xs ((vs.drop k).take xs.length))/\(idsL cs=[]->idsL xs=[])
 |0,_,xs,h,_=>by simp only[za3,Option.some.injEq,Prod.mk.injEq]at h;obtain⟨-,rfl⟩:=h;exact⟨fun _ _ _ _=>by simp[RelL],fun _=>rfl⟩
 |n+1,k,xs,h,hl=>by
  simp only[za3]at h;split at h
  ·rename_i d x e ys h2 h3;simp only[Option.some.injEq,Prod.mk.injEq,mF]at h;obtain⟨⟨rfl,rfl⟩,rfl⟩:=h;simp only[mJ]at hl⊢;have hk:k<cs.length:=by omega
   obtain⟨_,_,_,g1,g2⟩:=VF h2;obtain⟨i1,i2⟩:=zc3 h3 (by omega);refine⟨fun L R vs hr=>?_,fun h0=>?_⟩
   ·obtain⟨V,e1,e2⟩:=hr.get (J2 hk);obtain⟨hlt,rfl⟩:=mH.1 e1;rw[uAg hlt,uAo];exact⟨_,_,rfl,g1 _ _ _ e2,i1 _ _ _ hr⟩
   ·simp only[idsL,g2 (VK h0 (J2 hk)),i2 h0,nA]
  ·cases h
theorem zc4{cs:List AV}:∀{fs:List (Nat×TypeId)}{k:Nat}{xs:List AV},za4 P (.agg cs) fs k=some (true,xs)->k+xs.length<=cs.length->
  (∀L R vs,RelL L R cs vs->RelL L R xs ((vs.drop k).take xs.length))/\(idsL cs=[]->idsL xs=[])
 |[],_,xs,h,_=>by simp only[za4,Option.some.injEq,Prod.mk.injEq]at h;obtain⟨-,rfl⟩:=h;exact⟨fun _ _ _ _=>by simp[RelL],fun _=>rfl⟩
 |f::r,k,xs,h,hl=>by
  simp only[za4]at h;split at h
  ·rename_i d x e ys h1 h2 h3;simp only[Option.some.injEq,Prod.mk.injEq,mF]at h;obtain⟨⟨rfl,rfl⟩,rfl⟩:=h;simp only[mJ]at hl⊢;have hk:k<cs.length:=by omega
   obtain⟨_,_,_,g1,g2⟩:=VF h2;obtain⟨i1,i2⟩:=zc4 h3 (by omega);refine⟨fun L R vs hr=>?_,fun h0=>?_⟩
   ·obtain⟨V,e1,e2⟩:=hr.get (J2 hk);obtain⟨hlt,rfl⟩:=mH.1 e1;rw[uAg hlt,uAo];exact⟨_,_,rfl,g1 _ _ _ e2,i1 _ _ _ hr⟩
   ·simp only[idsL,g2 (VK h0 (J2 hk)),i2 h0,nA]
  ·cases h
theorem ze2{v:AV}{n:Nat}(h:zrR v n=true):∃cs,v=.agg cs/\cs.length=n:=by
 unfold zrR at h;split at h
 ·exact⟨_,rfl,mD h⟩
 ·cases h
theorem shapeA_rel{t:TypeId}{v x:AV}(h:zex P t v=some (true,x)):
  (zu P t=some true/\∃cs xs,v=.agg cs/\x=.agg xs/\xs.length=cs.length/\(∀L R vs,RelL L R cs vs->RelL L R xs vs)/\(idsL cs=[]->idsL xs=[]))\/
  (zu P t=some false/\zT v=true/\zT x=true/\(∀L R V,Rel L R v V->Rel L R x V)/\(idsV v=[]->idsV x=[])):=by
 have whole:∀{cs xs:List AV},cs.length=xs.length->(∀L R vs,RelL L R cs vs->RelL L R xs ((vs.drop 0).take xs.length))->∀L R vs,RelL L R cs vs->RelL L R xs vs:=by intro cs xs h1 h2 L R vs hr;have:=h2 L R vs hr;rwa [nU,nH (by rw[<-h1,hr.length];exact mK _)]at this
 unfold zex at h;split at h
 ·rename_i fs hu;split at h
  ·split at h
   rotate_left
   ·cases h
   rename_i c xs hl;simp only[Option.some.injEq,Prod.mk.injEq,mF]at h;obtain⟨⟨h1,rfl⟩,rfl⟩:=h;obtain⟨cs,rfl,h5⟩:=ze2 h1;obtain⟨i1,i2⟩:=zc4 hl (by omega);exact .inl ⟨by simp[zu,hu],cs,xs,rfl,rfl,h5.symm,whole h5 i1,i2⟩
  ·cases h
 ·rename_i n e hu;split at h
  ·rename_i c xs hl;simp only[Option.some.injEq,Prod.mk.injEq,mF]at h;obtain⟨⟨h1,rfl⟩,rfl⟩:=h;obtain⟨cs,rfl,h5⟩:=ze2 h1;obtain⟨i1,i2⟩:=zc3 hl (by omega);exact .inl ⟨by simp[zu,hu],cs,xs,rfl,rfl,h5.symm,whole h5 i1,i2⟩
  ·cases h
 ·exact .inr (VF h)
theorem zf6{z:Nat}:∀(i:Nat){l:List AV}{cs:List Value},RelR L R z l cs->RelR L R z (l.drop i) (cs.drop (i*z))
 |0,l,cs,h=>by simpa using h
 |i+1,[],cs,h=>by have h:cs=[]:=h;subst h;simp[RelR]
 |i+1,x::r,cs,hr=>by
  have key:(∃a b,cs=a++b/\a.length=z/\RelR L R z r b):=by
   cases x with
   |agg xs=>obtain⟨a,b,h1,h2,h3,h4⟩:=hr;exact⟨a,b,h1,by rw[<-h3.length,h2],h4⟩
   |_=>obtain⟨u,us,h1,h2,h3,h4,h5⟩:=hr;exact⟨[u],us,h1,by simp[h2],h5⟩
  obtain⟨a,b,rfl,h2,h3⟩:=key;have:=zf6 i h3;rw[uA9,uAm,uAt,<-mY,<-h2,List.drop_left,h2];exact this
theorem zat{z:Nat}:∀(i:Nat){l:List AV}{cs:List Value},RelR L R z l cs->RelR L R z (l.take i) (cs.take (i*z))
 |0,l,cs,h=>by simp[RelR]
 |i+1,[],cs,h=>by have h:cs=[]:=h;subst h;simp[RelR]
 |i+1,x::r,cs,hr=>by
  cases x with
  |agg xs=>
   obtain⟨a,b,rfl,h2,h3,h4⟩:=hr;have ha:a.length=z:=by rw[<-h3.length,h2]
   rw[uAo,uAm,uAt,<-ha,List.take_length_add_append,ha];exact⟨a,_,rfl,h2,h3,zat i h4⟩
  |_=>obtain⟨u,us,rfl,rfl,h3,h4,h5⟩:=hr;have:=zat i h5;rw[mR]at this;rw[mR,uAo,uAo];exact⟨u,_,rfl,rfl,h3,h4,this⟩
end
end Go.Am
