/-
  A part of the proof of the laws.
-/
import Derived.Test.YtannhfbidakffaaGreatDoorAm4
namespace Go.Am
open Go Go.RowKit Go.Vc
section
variable {P : Program} {L : Lk} {R : Ro}
theorem zmD{k:IntKind}{n:Int}{v:AV}(h:zrI k n=(true,v)):∃m:Vc.Mode,∃c V,m.int k n=(c,V)/\jA c/\Rel L R v V:=by
 unfold zrI at h;split at h
 ·simp only[Prod.mk.injEq]at h;obtain⟨j,rfl⟩:=h;exact⟨.exact,_,_,rfl,yq.1 j,rfl⟩
 ·simp only[Prod.mk.injEq]at h;obtain⟨-,rfl⟩:=h;exact⟨.wrap,_,_,rfl,trivial,rfl⟩
theorem zm6(a b:Int):(a==b)=decide (a=b):=by by_cases h:a=b<;>simp[h]
theorem zB8(a b:Int):(a !=b)=!decide (a=b):=by by_cases h:a=b<;>simp[h]
theorem ziv(a b:uAU):(a==b)=decide (a=b):=by by_cases h:a=b<;>simp[h]
theorem ziw(a b:Bool):(a==b)=decide (a=b):=by cases a<;>cases b<;>rfl
theorem zek{op:BinOp}{k:IntKind}{a b:Int}{v:AV}(h:zsu op k a b=some (true,v)):
  ∃m:Vc.Mode,∃c V,zpY m op k a b=some (c,V)/\jA c/\Rel L R v V:=by
 unfold zsu at h;split at h;case h_4|h_5=>
  simp only[Option.some.injEq,Prod.mk.injEq,mF,decide_eq_true_eq,zf]at h;first
   |(obtain⟨⟨⟨j,B⟩,H⟩,rfl⟩:=h;exact⟨.exact,_,_,rfl,⟨j,B,yq.1 H⟩,rfl⟩)
   |(obtain⟨⟨j,B⟩,rfl⟩:=h;exact⟨.exact,_,_,rfl,And.intro j B,rfl⟩)
 case h_6|h_7|h_8=>cases h;exact⟨.exact,none,_,rfl,trivial,rfl⟩
 case h_9=>
  split at h
  ·rename_i I hc;simp only[Option.some.injEq,Prod.mk.injEq,true_and]at h;subst h;refine⟨.exact,none,.bool I,?_,trivial,rfl⟩;unfold zEU at hc;split at hc<;>simp only[Option.some.injEq,reduceCtorEq]at hc<;>subst hc<;>simp only[zpY,zm6,zB8]
  ·cases h
 all_goals
  simp only[Option.some.injEq]at h;obtain⟨m,c,V,j,B,H⟩:=zmD (L:=L) (R:=R) h;exact⟨m,c,V,by simp only[zpY,j],B,H⟩
theorem zsq{op:BinOp}{a b:uAU}{v:AV}(h:znf op a b=some (true,v)):
  ∃c V,zsr op (bl (bs a)) (bl (bs b))=some (c,V)/\jA c/\Rel L R v V:=by
 simp only[KU];unfold znf at h;split at h<;>simp only[Option.some.injEq,Prod.mk.injEq,true_and,reduceCtorEq]at h
 ·obtain⟨j,rfl⟩:=h;have j:=XA.1 j;exact⟨_,_,rfl,by show _<=_;omega,rfl⟩
 all_goals
  subst h;exact⟨_,_,rfl,trivial,by simp only[Rel,ziv]⟩
theorem ztY:∀{fs:List Field}{n:Nat}{xs O:List AV}{Xs Ys:List Value}{b:Bool}{d0:Nat},zmR P fs n xs O=some b->
  RelL L R xs (Xs.drop n)->RelL L R O (Ys.drop n)->YJ P (yu P (d0+1)) Xs Ys fs=some b:=by
 intro fs;induction fs with
 |nil=>intro n xs O Xs Ys b d0 j _ _;cases xs<;>cases O<;>simp only[zmR,reduceCtorEq,Option.some.injEq]at j;subst j;rfl
 |cons f r ih=>
  intro n xs O Xs Ys b d0 j Z ry
  match xs,O,j,Z,ry with
  |[],_,j,_,_=>simp[zmR]at j
  |x::xr,[],j,_,_=>simp[zmR]at j
  |x::xr,y::yr,j,Z,ry=>
   obtain⟨X,Xr,e1,I,r2⟩:=Z;obtain⟨Y,Yr,e2,J,r4⟩:=ry;have eX:Xs[n]? =some X:=by have:=congrArg (·[0]?) e1;simpa[List.getElem?_drop]using this
   have eY:Ys[n]? =some Y:=by have:=congrArg (·[0]?) e2;simpa[List.getElem?_drop]using this
   have dX:Xs.drop (n+1)=Xr:=by have:=congrArg (List.drop 1) e1;simpa[List.drop_drop,Nat.add_comm]using this
   have dY:Ys.drop (n+1)=Yr:=by have:=congrArg (List.drop 1) e2;simpa[List.drop_drop,Nat.add_comm]using this
   simp only[zmR]at j;split at j
   ·rename_i c U h2 h3 h4;have U:=mE U;have ih':=ih (d0:=d0) h4 (by rw[dX];exact r2) (by rw[dY];exact r4);have key:∃d,zB P f.type=some false/\yu P (d0+1) f.type X Y=some d/\b=(d&&c):=by
     split at j
     ·rename_i p q H;cases j;simp only[Rel]at I J;subst I J;exact⟨decide (p=q),by simp[zB,H],by simp only[yu,H,ziw],rfl⟩
     ·rename_i kk k p k' q H;split at j
      ·rename_i hk;cases j;simp only[Rel]at I J;subst I J;exact⟨decide (p=q),by simp[zB,H],by simp only[yu,H,hk,if_true,zm6],rfl⟩
      ·cases j
     ·rename_i p q H;cases j;simp only[Rel]at I J;subst I J;exact⟨decide (p=q),by simp[zB,H],by simp only[yu,H,KU,ziv],rfl⟩
     ·cases j
    obtain⟨d,B,S,rfl⟩:=key;have pX:jg P f.type Xs f.offset=some X:=by unfold jg;rw[B,h3,U];exact eX
    have pY:jg P f.type Ys f.offset=some Y:=by unfold jg;rw[B,h3,U];exact eY
    cases r with
    |nil=>
     have hc:c=true:=by cases xr<;>cases yr<;>simp only[zmR,reduceCtorEq,Option.some.injEq]at h4;exact h4.symm
     subst hc;simp only[YJ,h2,pX,pY,S,Bool.and_true];rfl
    |cons g s=>
     rw[YJ]
     ·simp only[h2,pX,pY,S,ih'];rfl
     ·intro hh;cases hh
   ·cases j
theorem zad{F:TypeId->Value->Value->Option Bool}{xs H:List Value}{f:Field}{r:List Field}{b c:Bool}(j:YJ P F xs H [f]=some b)(B:YJ P F xs H r=some c):
  YJ P F xs H (f::r)=some (b&&c):=by
 cases r with
 |nil=>simp only[YJ,Option.some.injEq]at B;subst B;rw[Bool.and_true];exact j
 |cons g s=>
  rw[YJ]at j;rw[YJ]
  ·split at j
   ·cases j
   ·rename_i I;rw[if_neg I];split at j
    ·rename_i a J ha O;simp only[j,B]
    ·cases j
  ·intro hh;cases hh
theorem zyw{t:TypeId}{x y:AV}{X Y:Value}{b:Bool}{d:Nat}(h:eq1 P t x y=some b)(B:Rel L R x X)(H:Rel L R y Y):zB P t=some false/\yu P (d+1) t X Y=some b:=by
 unfold eq1 at h;split at h
 ·rename_i p q j;cases h;simp only[Rel]at B H;subst B H;exact⟨by simp[zB,j],by simp only[yu,j,ziw]⟩
 ·rename_i J k p I q j;split at h
  ·rename_i hk;cases h;simp only[Rel]at B H;subst B H;exact⟨by simp[zB,j],by simp only[yu,j,hk,if_true,zm6]⟩
  ·cases h
 ·rename_i p q j;cases h;simp only[Rel]at B H;subst B H;exact⟨by simp[zB,j],by simp only[yu,j,KU,ziv]⟩
 ·cases h
theorem zB4:∀{fs:List Field}{n:Nat}{xs J:List AV}{Xs Ys:List Value}{b:Bool},zvA P fs n xs J=some b->
  RelL L R xs (Xs.drop n)->RelL L R J (Ys.drop n)->YJ P (yu P 7) Xs Ys fs=some b:=by
 intro fs;induction fs with
 |nil=>intro n xs J Xs Ys b B _ _;cases xs<;>cases J<;>simp only[zvA,reduceCtorEq,Option.some.injEq]at B;subst B;rfl
 |cons f r ih=>
  intro n xs J Xs Ys b B U ry;simp only[zvA]at B;split at B
  ·rename_i k gs H h2 I h4;split at B
   ·rename_i b1 c1 g1 O g3 g4 g5;cases B;have H:=mE H;have O:=mQ O;have g3:=mQ g3;have Z:=ih g5 (by have:=U.drop (k+1);rwa [mZ]at this) (by have:=ry.drop (k+1);rwa [mZ]at this);have j:zB P f.type=some true:=by simp[zB,h4]
    have e:=ztY (Xs:=(Xs.drop n).take (k+1)) (Ys:=(Ys.drop n).take (k+1)) (d0:=5) g4 (by simpa using U.take (k+1)) (by simpa using ry.take (k+1));refine zad ?_ Z;have S:jg P f.type Xs f.offset=some (.agg ((Xs.drop n).take (k+1)).toArray):=by unfold jg;rw[j,I,H]
    have pY:jg P f.type Ys f.offset=some (.agg ((Ys.drop n).take (k+1)).toArray):=by unfold jg;rw[j,I,H]
    have e7:yu P 7 f.type (.agg ((Xs.drop n).take (k+1)).toArray) (.agg ((Ys.drop n).take (k+1)).toArray)=some b1:=by simp only[yu,h4,g1,nA,if_false];exact e
    simp only[YJ,h2,S,pY,e7,nA,if_false]
   ·cases B
  ·rename_i _ H h2 I _;split at B
   ·rename_i x xr y yr;split at B
    ·rename_i b1 c1 g1 O;cases B;have H:=mE H;obtain⟨X,Xr,e1,r1,r2⟩:=U;obtain⟨Y,Yr,e2,r3,r4⟩:=ry;have eX:Xs[n]? =some X:=by have:=congrArg (·[0]?) e1;simpa[List.getElem?_drop]using this
     have eY:Ys[n]? =some Y:=by have:=congrArg (·[0]?) e2;simpa[List.getElem?_drop]using this
     have dX:Xs.drop (n+1)=Xr:=by have:=congrArg (List.drop 1) e1;simpa[List.drop_drop,Nat.add_comm]using this
     have dY:Ys.drop (n+1)=Yr:=by have:=congrArg (List.drop 1) e2;simpa[List.drop_drop,Nat.add_comm]using this
     obtain⟨j,heq⟩:=zyw (d:=6) g1 r1 r3;have S:jg P f.type Xs f.offset=some X:=by unfold jg;rw[j,I,H];exact eX
     have pY:jg P f.type Ys f.offset=some Y:=by unfold jg;rw[j,I,H];exact eY
     refine zad ?_ (ih O (by rw[dX];exact r2) (by rw[dY];exact r4));simp only[YJ,h2,S,pY,heq,nA,if_false]
    ·cases B
   ·cases B
  ·cases B
theorem zmQ{F:List Field->List AV->List AV->Bool->Option Bool}{D:Nat}
  (hF:∀{gs:List Field}{xs I:List AV}{Xs Ys:List Value}{c b:Bool},F gs xs I c=some b->RelL L R xs Xs->RelL L R I Ys->∃O,b=(O&&c)/\YJ P (yu P D) Xs Ys gs=some O):
  ∀{fs:List Field}{n:Nat}{xs I:List AV}{Xs Ys:List Value}{c b:Bool},zpi P F fs n xs I c=some b->
  RelL L R xs (Xs.drop n)->RelL L R I (Ys.drop n)->∃O,b=(O&&c)/\YJ P (yu P (D+1)) Xs Ys fs=some O:=by
 intro fs;induction fs with
 |nil=>intro n xs I Xs Ys c b B _ _;cases xs<;>cases I<;>simp only[zpi,reduceCtorEq,Option.some.injEq]at B;subst B;exact⟨true,sI,rfl⟩
 |cons f r ih=>
  intro n xs I Xs Ys c b B rx ry;simp only[zpi]at B;split at B
  ·rename_i k gs H h2 S h4;split at B
   ·rename_i d1 g1 U g3 g5;have H:=mE H;have U:=mQ U;have g3:=mQ g3;obtain⟨Z,rfl,J⟩:=ih g5 (by have:=rx.drop (k+1);rwa [mZ]at this) (by have:=ry.drop (k+1);rwa [mZ]at this);have j:zB P f.type=some true:=by simp[zB,h4]
    obtain⟨b1,rfl,e⟩:=hF B (Xs:=(Xs.drop n).take (k+1)) (Ys:=(Ys.drop n).take (k+1)) (rx.take (k+1)) (ry.take (k+1));refine⟨b1&&Z,by rw[Bool.and_assoc],zad ?_ J⟩;have pX:jg P f.type Xs f.offset=some (.agg ((Xs.drop n).take (k+1)).toArray):=by unfold jg;rw[j,S,H]
    have pY:jg P f.type Ys f.offset=some (.agg ((Ys.drop n).take (k+1)).toArray):=by unfold jg;rw[j,S,H]
    have e7:yu P (D+1) f.type (.agg ((Xs.drop n).take (k+1)).toArray) (.agg ((Ys.drop n).take (k+1)).toArray)=some b1:=by simp only[yu,h4,g1,nA,if_false];exact e
    simp only[YJ,h2,pX,pY,e7,nA,if_false]
   ·cases B
  ·rename_i _ H h2 S _;split at B
   ·rename_i x xr y yr;split at B
    ·rename_i b1 d1 g1 U;cases B;have H:=mE H;obtain⟨X,Xr,e1,r1,r2⟩:=rx;obtain⟨Y,Yr,e2,r3,r4⟩:=ry;have eX:Xs[n]? =some X:=by have:=congrArg (·[0]?) e1;simpa[List.getElem?_drop]using this
     have eY:Ys[n]? =some Y:=by have:=congrArg (·[0]?) e2;simpa[List.getElem?_drop]using this
     have dX:Xs.drop (n+1)=Xr:=by have:=congrArg (List.drop 1) e1;simpa[List.drop_drop,Nat.add_comm]using this
     have dY:Ys.drop (n+1)=Yr:=by have:=congrArg (List.drop 1) e2;simpa[List.drop_drop,Nat.add_comm]using this
     obtain⟨j,heq⟩:=zyw (d:=D) g1 r1 r3;have pX:jg P f.type Xs f.offset=some X:=by unfold jg;rw[j,S,H];exact eX
     have pY:jg P f.type Ys f.offset=some Y:=by unfold jg;rw[j,S,H];exact eY
     obtain⟨Z,rfl,J⟩:=ih U (by rw[dX];exact r2) (by rw[dY];exact r4);refine⟨b1&&Z,by rw[Bool.and_assoc],zad ?_ J⟩;simp only[YJ,h2,pX,pY,heq,nA,if_false]
    ·cases B
   ·cases B
  ·cases B
theorem zB3{fs:List Field}{xs j:List AV}{Xs Ys:List Value}{b:Bool}(h:zES P fs xs j=some b)(Z:RelL L R xs Xs)(I:RelL L R j Ys):YJ P (yu P 7) Xs Ys fs=some b:=by obtain⟨b0,rfl,e⟩:=zmQ (L:=L) (R:=R) (D:=6) (fun B Y J=>zmQ (L:=L) (R:=R) (D:=5) (fun S U H=>zmQ (L:=L) (R:=R) (D:=4) (fun O _ _=>by cases O) S (by simpa using U) (by simpa using H)) B (by simpa using Y) (by simpa using J)) h (by simpa using Z) (by simpa using I);rw[Bool.and_true];exact e
theorem RoRow.sliced{R:Ro}{full:Bool}{n:Nat}{V:Value}{C:List Value->Prop}(h:RoRow R full n V C)(j:n≠0):∃a n B,V=.slice (some a) n B:=by
 rcases h with⟨h,_⟩|⟨b,off,cap,cs,T,fr,seg,tl,h,_⟩
 ·exact absurd h j
 ·exact⟨_,_,_,h⟩
theorem zeM{x:AV}{X:Value}{c:Bool}(h:zh2 x=some (true,c))(B:Rel L R x X):∃a n H,X=.slice a n H/\c=a.isNone:=by
 have J:∀{full:Bool}{n:Nat}{C:List Value->Prop},Nat.ble 1 n=true->RoRow R full n X C->∃a n H,X=.slice (some a) n H:=fun j S=>RoRow.sliced S (by have:=mQ j;omega)
 cases x<;>simp only[zh2,reduceCtorEq,Option.some.injEq,Prod.mk.injEq,true_and]at h;case nils=>subst h;exact⟨none,0,0,B,rfl⟩
 case rwp=>subst h;obtain⟨f,_,_,_,rfl⟩:=B;exact⟨_,_,_,rfl,rfl⟩
 case rwf=>subst h;obtain⟨f,_,_,_,rfl⟩:=B;exact⟨_,_,_,rfl,rfl⟩
 case rob=>obtain⟨j,rfl⟩:=h;obtain⟨a,n,H,rfl⟩:=J j B;exact⟨_,_,_,rfl,rfl⟩
 case roi=>obtain⟨j,rfl⟩:=h;obtain⟨a,n,H,rfl⟩:=J j B;exact⟨_,_,_,rfl,rfl⟩
 case ros=>obtain⟨j,rfl⟩:=h;obtain⟨a,n,H,rfl⟩:=J j B;exact⟨_,_,_,rfl,rfl⟩
 case rov=>obtain⟨j,rfl⟩:=h;obtain⟨a,n,H,rfl⟩:=J j B.2;exact⟨_,_,_,rfl,rfl⟩
 case rws=>obtain⟨I,rfl⟩:=h;have I:=of_decide_eq_true I;obtain⟨f,_,_,_,_,a,H,rfl,_,O⟩:=B;obtain⟨_,rfl⟩:=O I;exact⟨_,_,_,rfl,rfl⟩
 case rwc=>obtain⟨I,rfl⟩:=h;have I:=of_decide_eq_true I;obtain⟨f,_,⟨_,_,_,a,H,rfl,_,O⟩,_⟩:=B;obtain⟨_,rfl⟩:=O I;exact⟨_,_,_,rfl,rfl⟩
theorem zCg{op:BinOp}{t:TypeId}{x y v:AV}{X Y:Value}(h:zEa P op t x y=some (true,v))(B:Rel L R x X)(j:Rel L R y Y):
  ∃m:Vc.Mode,∃c V,zbI P m op t X Y=some (c,V)/\jA c/\Rel L R v V:=by
 unfold zEa at h;split at h
 ·rename_i k Z b;obtain⟨n,hn,rfl⟩:=B;simp only[Rel]at j;subst j;split at h
  ·rename_i hk J;have J:b<=0:=by simpa using J
   cases h;obtain⟨m,c,V,H,I,O⟩:=zek (L:=L) (R:=R) (op:=.eql) (k:=k) (a:=n) (b:=b) (v:=.bool (decide (n=b))) rfl;rw[decide_eq_false oM]at O;exact⟨m,c,V,by simp only[zbI,hk,if_true,H],I,O⟩
  ·rename_i hk J;have J:b<=0:=by simpa using J
   cases h;obtain⟨m,c,V,H,I,O⟩:=zek (L:=L) (R:=R) (op:=.neq) (k:=k) (a:=n) (b:=b) (v:=.bool (!decide (n=b))) rfl;rw[decide_eq_false oM]at O;exact⟨m,c,V,by simp only[zbI,hk,if_true,H],I,O⟩
  ·cases h
 ·rename_i k a Z b;simp only[Rel]at B j;subst B j;split at h
  ·simp only[Option.some.injEq,Prod.mk.injEq,mF,zf,decide_eq_true_eq,uAQ]at h;obtain⟨⟨H,I⟩,rfl⟩:=h;exact⟨.exact,_,_,rfl,⟨H,oM⟩,rfl⟩
  ·simp only[Option.some.injEq,Prod.mk.injEq,mF,zf,decide_eq_true_eq,uAQ]at h;obtain⟨⟨H,I⟩,rfl⟩:=h;exact⟨.exact,_,_,rfl,⟨H,oM⟩,rfl⟩
  ·split at h
   ·rename_i H I _ hk;obtain⟨m,c,V,g1,g2,U⟩:=zek (L:=L) (R:=R) h;refine⟨m,c,V,?_,g2,U⟩;cases op<;>first|exact (H rfl).elim|exact (I rfl).elim|simp only[zbI,hk,if_true,g1]
   ·cases h
 ·simp only[Rel]at B j;subst B j;obtain⟨c,V,H,I,O⟩:=zsq (L:=L) (R:=R) h;exact⟨.exact,c,V,by simp only[zbI,H],I,O⟩
 ·rename_i a b;simp only[Rel]at B j;subst B j;split at h<;>simp only[Option.some.injEq,Prod.mk.injEq,true_and,reduceCtorEq]at h;all_goals
   rename_i S;subst h;exact⟨.exact,none,_,by simp only[zbI,S,zst];rfl,trivial,by simp only[Rel,ziw]⟩
 ·rename_i xs ys;obtain⟨Xs,rfl,B⟩:=B;obtain⟨Ys,rfl,j⟩:=j;have key:∀{c:Bool},zyv P t xs ys=some c->P.eqGuardType P.depth t=false/\yu P 8 t (.agg Xs.toArray) (.agg Ys.toArray)=some c:=by
   intro c hc;unfold zyv at hc;split at hc
   ·rename_i fs S hg hs;refine⟨hg,?_⟩;simp only[yu,S,hs,nA,if_false];split at hc
    ·rename_i b J;cases hc;exact ztY (d0:=6) J (by simpa using B) (by simpa using j)
    ·split at hc
     ·rename_i b J;cases hc;exact zB4 J (by simpa using B) (by simpa using j)
     ·exact zB3 hc (by simpa using B) (by simpa using j)
   ·cases hc
  split at h<;>simp only[Option.some.injEq,Prod.mk.injEq,true_and,reduceCtorEq]at h;all_goals
   rename_i c hc;obtain⟨H,I⟩:=key hc;subst h;exact⟨.exact,none,_,by simp only[zbI,H,I,nA,if_false],trivial,rfl⟩
 ·have j:Y=.slice none 0 0:=j;subst j;split at h
  ·rename_i e c S hc;cases h;obtain⟨a,n,cp,rfl,rfl⟩:=zeM hc B;exact⟨.exact,none,_,by simp only[zbI,S],trivial,rfl⟩
  ·rename_i e c S hc;cases h;obtain⟨a,n,cp,rfl,rfl⟩:=zeM hc B;exact⟨.exact,none,_,by simp only[zbI,S],trivial,rfl⟩
  ·cases h
 ·cases h
theorem zow(v:Value):Rel L R (zrg v) v:=by
 unfold zrg;split<;>(try exact rfl)
 ·split
  ·rename_i f first cap j B
   exact⟨[],[],by simp[Array.toList_eq_nil_iff.1 j,Array.toList_eq_nil_iff.1 B],rfl,rfl⟩
  ·trivial
 ·trivial
theorem WP:∀(l:List Value),RelL L R (l.map zrg) l
 |[]=>rfl
 |v::r=>⟨v,r,rfl,zow v,WP r⟩
theorem ztB(v:Value):Rel L R (ofV v) v:=by
 unfold ofV;split
 ·rename_i cs;exact⟨cs.toList,rfl,WP _⟩
 ·exact zow v
def GlobOK(gl:Glob)(R:Ro):Prop:=∀g,Rel (fun _=>none) R (jU gl g) (.pointer (some ⟨g,0,none⟩))
theorem YH:∀(gl:Glob)(g:Nat),idsV (jU gl g)=[]
 |[],_=>rfl
 |(h,v)::r,g=>by
  simp only[jU];split
  ·rfl
  ·exact YH r g
theorem Vn{gl:Glob}(B:GlobOK gl R){s:Slots}{a:Act}(j:∀t,Rel L R (get s t) (a.tmps.getD t undef))(x:Operand):Rel L R (opnd gl s x) (a.eval x):=by
 cases x with
 |tmp t=>exact j t
 |const v=>exact ztB v
 |global g=>exact zn (fun _ _ h=>h) _ _ (by simp[opnd,YH]) (B g)
 |func f=>exact⟨[],[],rfl,rfl,rfl⟩
theorem Vl{t:TypeId}{cs:List AV}{off:Nat}{v:AV}{vs:List Value}(h:Vm P t cs off=some v)(B:RelL L R cs vs):
  ∃V n,jg P t vs off=some V/\Rel L R v V/\zK P t=some n/\off+n<=vs.length:=by
 unfold Vm at h;split at h
 ·rename_i n ha j;split at h
  ·rename_i H;cases h;exact⟨_,n,by simp only[jg,ha,j],⟨_,rfl,(B.drop off).take n⟩,j,by have:=mQ H;rw[B.length]at this;exact this⟩
  ·cases h
 ·rename_i ha j;obtain⟨V,e,hv⟩:=B.get h;exact⟨V,1,by simp only[jg,ha,j];exact e,hv,j,(mG.1 e).1⟩
 ·cases h
theorem zks(off:Nat):∀(vs:List Value)(k:Nat)(cs:Array Value)(p:Nat),off+k+vs.length<=cs.size->
  ((vs.zipIdx k).foldl (fun(cs:Array Value)(x:Value×Nat)=>cs.setIfInBounds (off+x.2) x.1) cs)[p]? =if off+k<=p/\p<off+k+vs.length then vs[p-(off+k)]? else cs[p]?
 |[],k,cs,p,_=>by rw[if_neg sI];rfl
 |v::r,k,cs,p,hle=>by
  simp only[List.zipIdx_cons,List.foldl_cons];rw[zks off r (k+1) _ p (by simp at hle⊢;omega)];by_cases j:off+(k+1)<=p/\p<off+(k+1)+r.length
  ·rw[if_pos j,if_pos (by simp;omega),show p-(off+k)=(p-(off+(k+1)))+1 by omega];simp
  ·rw[if_neg j];by_cases H:p=off+k
   ·subst H;rw[if_pos sI];simp only[mM]at hle;have B:off+k<cs.size:=oM
    simp[B]
   ·rw[if_neg (by simp;omega),uAd oM]
theorem zrE(off:Nat)(vs:List Value)(cs:Array Value)(I:off+vs.length<=cs.size):
  (vs.toArray.zipIdx.foldl (fun cs x=>cs.setIfInBounds (off+x.2) x.1) cs).toList=cs.toList.take off++vs++cs.toList.drop (off+vs.length):=by
 rw[<-Array.foldl_toList];apply uAN;intro p;have h:=zks off vs 0 cs p oM;simp only[uAa]at h;have h':((vs.toArray.zipIdx.toList).foldl (fun(cs:Array Value)(x:Value×Nat)=>cs.setIfInBounds (off+x.2) x.1) cs).toList[p]? =if off<=p/\p<off+vs.length then vs[p-off]? else cs[p]? :=by rw[uAR,<-h];simp
 rw[h'];have j:(cs.toList.take off).length=off:=by simp;omega
 by_cases B:off<=p/\p<off+vs.length
 ·rw[if_pos B,mR,nJ oM,j,nH oM]
 ·rw[if_neg B];by_cases H:p<off
  ·rw[mR,nH oM,List.getElem?_take,if_pos H];simp
  ·rw[nJ (by simp;omega)];simp only[mO,j,nI];rw[show off+vs.length+(p-(off+vs.length))=p by omega];simp
theorem zcL{H:Nat->Option (Nat×Nat)}:∀{B:List (Nat×AV)}{l U:List AV}{cs:Array Value}{parts':List (Nat×Value)},
  zii H l B=some U->RelL L R l cs.toList->B.map (·.1)=parts'.map (·.1)->RelL L R (B.map (·.2)) (parts'.map (·.2))->
  ∃I,Instr.fill H cs parts'=some I/\RelL L R U I.toList:=by
 intro B;induction B with
 |nil=>
  intro l U cs parts' h S J _;simp only[zii,Option.some.injEq]at h;subst h;cases parts' with
  |nil=>exact⟨cs,rfl,S⟩
  |cons _ _=>simp at J
 |cons p r ih=>
  intro l U cs parts' h S J h2;obtain⟨i,v⟩:=p;cases parts' with
  |nil=>simp at J
  |cons q r'=>
   obtain⟨i',V⟩:=q;simp only[uAh,List.cons.injEq]at J h2;obtain⟨rfl,J⟩:=J;obtain⟨u,us,e,hv,h3⟩:=h2;simp only[List.cons.injEq]at e;obtain⟨rfl,rfl⟩:=e;simp only[zii]at h;split at h
   ·cases h
   ·rename_i off n hp;split at h
    ·rename_i Y O ho;have Y:=mE Y;have O:=mQ O;obtain⟨vs,e1,e2,_⟩:=hv.cells ho;have Z:vs.length=n:=by rw[<-e2.length,Y]
     have hsz:l.length=cs.size:=by rw[S.length];simp
     obtain⟨I,h4,h5⟩:=ih (cs:=(V.cells.zipIdx.foldl (fun cs(c,j)=>cs.setIfInBounds (off+j) c) cs)) h (by
      rw[e1];have:=zrE off vs cs oM;rw[this];exact S.setL e2 off) J h3
     refine⟨I,?_,h5⟩;simp only[Instr.fill,hp];have hc:¬((decide (V.cells.size≠n)||decide (off+V.cells.size>cs.size))=true):=by rw[e1];simp;omega
     rw[if_neg hc];exact h4
    ·cases h
theorem zhJ(ev:Operand->AV):∀(l:List (Nat×Operand)),(zap ev l).map (·.1)=l.map (·.1)
 |[]=>rfl
 |(i,x)::r=>by simp[zap,zhJ ev r]
theorem zhI{ev:Operand->AV}{ρ:Operand->Value}(h:∀x,Rel L R (ev x) (ρ x)):∀(l:List (Nat×Operand)),RelL L R ((zap ev l).map (·.2)) (l.map fun p=>ρ p.2)
 |[]=>rfl
 |(_i,x)::r=>⟨_,_,rfl,h x,zhI h r⟩
theorem zkh(ρ:Operand->Value):∀(l:List (Nat×Operand)),zrm (fun x=>some (ρ x)) l=some (l.map fun p=>(p.1,ρ p.2))
 |[]=>rfl
 |(i,x)::r=>by simp[zrm,zkh ρ r]
theorem zkf(ρ:Operand->Value):∀(l:List Operand),zoE (fun x=>some (ρ x)) l=some (l.map ρ)
 |[]=>rfl
 |x::r=>by simp[zoE,zkf ρ r]
theorem Vi{ev:Operand->AV}{ρ:Operand->Value}(h:∀x,Rel L R (ev x) (ρ x)):∀(l:List Operand),RelL L R (l.map ev) (l.map ρ)
 |[]=>rfl
 |x::r=>⟨_,_,rfl,h x,Vi h r⟩
theorem KY{t:TypeId}{cs:List AV}(h:zjE P t=some cs):∃vs,znr P t=some vs/\RelL L R cs vs:=by
 unfold zjE at h;split at h
 ·rename_i vs hv;cases h;exact⟨vs,hv,WP vs⟩
 ·cases h
theorem zvS{t:TypeId}{j:List (Nat×AV)}{v:AV}{parts':List (Nat×Value)}(h:zsk P t j=some v)(h1:j.map (·.1)=parts'.map (·.1))
  (h2:RelL L R (j.map (·.2)) (parts'.map (·.2))):∃V,zbH P t parts'=some V/\Rel L R v V:=by
 have zi:∀{z:List AV},zjE P t=some z->∃i I,P.info? t=some i/\i.zero=some I/\RelL L R z I.cells.toList:=by
  intro z O;obtain⟨vs,H,J⟩:=KY (L:=L) (R:=R) O;unfold znr at H;split at H
  ·rename_i i hi;split at H
   ·rename_i I hzv;cases H;exact⟨i,I,hi,hzv,J⟩
   ·cases H
  ·cases H
 unfold zsk at h;split at h
 ·rename_i S z Z O;obtain⟨i,I,H,J,e3⟩:=zi O;split at h
  ·rename_i places hp;split at h
   ·rename_i cs Y;cases h;obtain⟨B,e4,U⟩:=zcL Y e3 h1 h2;exact⟨.agg B,by simp only[zbH,H,Z,J,hp,e4],⟨B.toList,rfl,U⟩⟩
   ·cases h
  ·cases h
 ·rename_i n elem z Z O;obtain⟨i,I,H,J,e3⟩:=zi O;split at h
  ·rename_i size hs;split at h
   ·rename_i cs Y;cases h;obtain⟨B,e4,U⟩:=zcL Y e3 h1 h2;exact⟨.agg B,by simp only[zbH,H,Z,J,hs,e4],⟨B.toList,rfl,U⟩⟩
   ·cases h
  ·cases h
 ·cases h
theorem RoRow.row{full:Bool}{n:Nat}{V:Value}{C:List Value->Prop}(h:RoRow R full n V C):∃a cap,V=.slice a n cap:=by
 rcases h with⟨rfl,a,cap,h,_⟩|⟨b,off,cap,cs,T,fr,seg,tl,h,_⟩
 ·exact⟨a,cap,h⟩
 ·exact⟨_,cap,h⟩
theorem RoRow.at_{full:Bool}{n:Nat}{V:Value}{C:List Value->Prop}(h:RoRow R full n V C)(J:0<n):
  ∃b off cap cs T fr seg tl,V=.slice (some ⟨b,off,none⟩) n cap/\R b=some (.cells cs T fr)/\cs.toList.drop off=seg++tl/\C seg:=by
 rcases h with⟨rfl,_⟩|⟨b,off,cap,cs,T,fr,seg,tl,j,_,_,H,B,I⟩
 ·omega
 ·exact⟨b,off,cap,cs,T,fr,seg,tl,j,H,B,I⟩
theorem zw{i:Int}{n:Nat}:inIx i n=true↔0<=i/\i<(n:Int):=by simp[inIx]
theorem zt{j hi:Int}{n:Nat}:zk j hi n=true↔0<=j/\j<=hi/\hi<=(n:Int):=by simp[zk,and_assoc]
theorem zBI{G:List Res}{h:Heap}{R:Ro}{v:AV}{V:Value}{n:Int}(j:zml h v=some n)(B:Rel (look G h) R v V):
  ∃a k cap,V=.slice a k cap/\n=(k:Int):=by
 unfold zml at j;split at j
 ·cases j;simp only[Rel]at B;exact⟨none,0,0,B,rfl⟩
 ·rename_i i;split at j
  ·rename_i o ho;cases j;obtain⟨f,H,O,I⟩:=B;obtain⟨o',r,J,S,rfl⟩:=zp H;rw[ho]at J;cases J;cases hv:r.virt
   ·exact⟨_,_,_,I hv,rfl⟩
   ·have:=O hv;simp only at this;exact⟨_,_,_,this.2,by rw[this.1]⟩
  ·cases j
 ·rename_i i;split at j
  ·rename_i o ho;cases j;obtain⟨f,H,O,U,I⟩:=B;obtain⟨o',r,J,S,rfl⟩:=zp H;rw[ho]at J;cases J;exact⟨_,_,_,I,rfl⟩
  ·cases j
 ·cases j;obtain⟨f,_,H,O,I,a,cap,rfl,_⟩:=B;exact⟨a,_,cap,rfl,oM⟩
 all_goals first
  |(cases j;done)
  |(
   simp only[Option.some.injEq]at j;subst j;simp only[Rel]at B;first
    |(obtain⟨f,_,⟨H,O,I,a,cap,rfl,_⟩,_⟩:=B;exact⟨a,_,cap,rfl,oM⟩)
    |(obtain⟨a,cap,h⟩:=B.row;exact⟨a,_,cap,h,rfl⟩)
    |(obtain⟨a,cap,h⟩:=B.2.row;exact⟨a,_,cap,h,rfl⟩))
theorem zzn{l:uAU}{I hi:Option AV}{v:AV}{lo' hi':Option Value}(h:zDb l I hi=some (true,v))
  (j:match I,lo' with|none,none=>True|some x,some X=>Rel L R x X|_,_=>False) (B:match hi,hi' with|none,none=>True|some x,some X=>Rel L R x X|_,_=>False):
  ∃c V,zlj (bs l) lo' hi'=some (c,V)/\jA c/\Rel L R v V:=by
 unfold zDb at h;split at h
 ·cases h;cases lo' with
  |some _=>exact j.elim
  |none=>cases hi' with
   |some _=>exact B.elim
   |none=>exact⟨_,_,rfl,trivial,rfl⟩
 ·rename_i k n;simp only[Option.some.injEq,Prod.mk.injEq]at h;obtain⟨H,rfl⟩:=h;have H:=zt.1 H;cases lo' with
  |none=>exact j.elim
  |some X=>cases hi' with
   |some _=>exact B.elim
   |none=>simp only[Rel]at j;subst j;exact⟨_,_,rfl,by(simp only[jA,KU];try omega),by simp only[Rel,KU]⟩
 ·rename_i k n;simp only[Option.some.injEq,Prod.mk.injEq]at h;obtain⟨H,rfl⟩:=h;have H:=zt.1 H;cases lo' with
  |some _=>exact j.elim
  |none=>cases hi' with
   |none=>exact B.elim
   |some X=>simp only[Rel]at B;subst B;exact⟨_,_,rfl,by(simp only[jA,KU];try omega),by simp only[Rel,KU]⟩
 ·rename_i k n J O;simp only[Option.some.injEq,Prod.mk.injEq]at h;obtain⟨H,rfl⟩:=h;have H:=zt.1 H;cases lo' with
  |none=>exact j.elim
  |some X=>cases hi' with
   |none=>exact B.elim
   |some Y=>simp only[Rel]at j B;subst j B;exact⟨_,_,rfl,by(simp only[jA,KU];try omega),by simp only[Rel,KU]⟩
 ·cases h
theorem Zm:∀(a b:List AV),idsL (a++b)=idsL a++idsL b
 |[],_=>rfl
 |v::r,b=>by simp[idsL,Zm r b]
theorem W5:∀{l:List AV}{i:Nat}{v:AV},idsL l=[]->l[i]? =some v->idsV v=[]
 |[],_,_,_,h=>by simp at h
 |x::r,0,v,h0,h=>by simp at h;subst h;simp[idsL]at h0;exact h0.1
 |x::r,i+1,v,h0,h=>by simp[idsL]at h0;exact W5 h0.2 (by simpa using h)
theorem zqH{v:AV}{V:Value}(B:idsV v=[])(j:jb v=true)(h:∃b off ce T fr u tl,V=.pointer (some ⟨b,off,none⟩)/\R b=some (.cells ce T fr)/\ce.toList.drop off=u::tl/\Rel L R v u):Rel L R (.rp v) V:=by
 cases v with
 |agg cs=>cases j
 |_=>exact⟨B,j,h⟩
theorem YV{z:Nat}:∀{l:List AV}{cs:List Value},RelR L R z l cs->cs.length=l.length*z
 |[],cs,h=>by have h:cs=[]:=h;subst h;simp
 |x::r,cs,hr=>by
  have key:(∃a b,cs=a++b/\a.length=z/\RelR L R z r b)\/(∃u B,cs=u::B/\z=1/\RelR L R z r B):=by
   cases x with
   |agg xs=>obtain⟨a,b,I,H,j,J⟩:=hr;exact .inl ⟨a,b,I,by rw[<-j.length,H],J⟩
   |_=>obtain⟨u,B,I,H,j,J,O⟩:=hr;exact .inr ⟨u,B,I,H,O⟩
  rcases key with⟨a,b,rfl,H,j⟩|⟨u,B,rfl,rfl,j⟩
  ·rw[mO,H,YV j,mM,uAD,nZ]
  ·rw[mM,YV j,mM];omega
theorem RelR_get'{z:Nat}:∀{l:List AV}{cs:List Value},RelR L R z l cs->∀{i:Nat}{v:AV},l[i]? =some v->
  (∃xs,v=.agg xs/\xs.length=z/\RelL L R xs ((cs.drop (i*z)).take z))\/(jb v=true/\z=1/\∃u,cs[i]? =some u/\Rel L R v u)
 |[],_,_,i,v,h=>by simp at h
 |x::r,cs,hr,i,v,h=>by
  have key:(∃xs a b,x=.agg xs/\cs=a++b/\xs.length=z/\RelL L R xs a/\RelR L R z r b)\/(∃u S,cs=u::S/\z=1/\jb x=true/\Rel L R x u/\RelR L R z r S):=by
   cases x with
   |agg xs=>obtain⟨a,b,U,O,j,I⟩:=hr;exact .inl ⟨xs,a,b,rfl,U,O,j,I⟩
   |_=>obtain⟨u,S,U,O,j,I,Y⟩:=hr;exact .inr ⟨u,S,U,O,j,I,Y⟩
  rcases key with⟨xs,a,b,rfl,rfl,O,j,I⟩|⟨u,S,rfl,rfl,j,I,Y⟩
  ·have ha:a.length=z:=by rw[<-j.length,O]
   cases i with
   |zero=>simp only[uAB,Option.some.injEq]at h;subst h;refine .inl ⟨xs,rfl,O,?_⟩;rw[Nat.zero_mul,nS,uAK oM,nQ oM];exact j
   |succ i=>
    simp only[uAp]at h;have hd:((a++b).drop ((i+1)*z))=b.drop (i*z):=by rw[uAD,nZ,<-mZ,<-ha,List.drop_left]
    rcases RelR_get' I h with⟨ys,H,B,J⟩|⟨H,B,u,J,Z⟩
    ·exact .inl ⟨ys,H,B,by rw[hd];exact J⟩
    ·refine .inr ⟨H,B,u,?_,Z⟩;subst B;rw[nJ oM,ha];simpa using J
  ·cases i with
   |zero=>simp only[uAB,Option.some.injEq]at h;subst h;exact .inr ⟨j,rfl,u,rfl,I⟩
   |succ i=>
    simp only[uAp]at h;rcases RelR_get' Y h with⟨ys,H,B,J⟩|⟨H,B,u',J,Z⟩
    ·refine .inl ⟨ys,H,B,?_⟩;rw[show(i+1)*1=i*1+1 by omega,List.drop_succ_cons];exact J
    ·exact .inr ⟨H,B,u',by simpa using J,Z⟩
theorem zj0{v x:AV}(h:zs0 v=some (true,x)):jb v=true/\jb x=true/\(∀L R V,Rel L R v V->Rel L R x V)/\(idsV v=[]->idsV x=[]):=by
 unfold zs0 at h;split at h
 ·cases h;exact⟨rfl,rfl,fun _ _ _ h=>h,fun h=>h⟩
 ·cases h;exact⟨rfl,rfl,fun _ _ _ h=>h,fun h=>h⟩
 ·cases h;exact⟨rfl,rfl,fun _ _ _ h=>h,fun h=>h⟩
 ·cases h
theorem WX{Y:Bool}{t:TypeId}{v x:AV}(h:zkj P Y t v=some (true,x)):zB P t=some false/\jb v=true/\jb x=true/\(∀L R V,Rel L R v V->Rel L R x V)/\(idsV v=[]->idsV x=[]):=by
 unfold zkj at h;split at h
 ·rename_i H;simp only[Option.some.injEq,Prod.mk.injEq]at h;obtain⟨j,rfl⟩:=h;unfold zdV at j;split at j
  ·rename_i k n;simp only[kEq,decide_eq_true_eq]at j;subst j;exact⟨by simp[zB,H],rfl,rfl,fun _ _ _ h=>h,fun h=>h⟩
  ·cases j
 ·rename_i H;simp only[Option.some.injEq,Prod.mk.injEq]at h;obtain⟨j,rfl⟩:=h;split at j
  ·exact⟨by simp[zB,H],rfl,rfl,fun _ _ _ h=>h,fun h=>h⟩
  ·cases j
 ·rename_i H;simp only[Option.some.injEq,Prod.mk.injEq]at h;obtain⟨j,rfl⟩:=h;split at j
  ·exact⟨by simp[zB,H],rfl,rfl,fun _ _ _ h=>h,fun h=>h⟩
  ·cases j
 ·rename_i H;split at h
  ·cases h;exact⟨by simp[zB,H],rfl,rfl,fun _ _ _ h=>h,fun h=>h⟩
  ·cases h
 ·rename_i e H;split at h
  ·simp only[Option.some.injEq,Prod.mk.injEq]at h;obtain⟨j,rfl⟩:=h;refine⟨by simp[zB,H],?_,rfl,?_,fun _=>rfl⟩
   ·unfold zrx at j;split at j
    ·rfl
    ·rfl
    ·cases j
   ·intro L R V B;unfold zrx at j;split at j
    ·rename_i f l;rcases B with⟨a,b,c,d,_⟩|⟨b,off,cap,cs,T,fr,seg,tl,J,_,I⟩
     ·exact .inl ⟨a,b,c,d,fun h=>by cases h⟩
     ·exact .inr ⟨b,off,cap,cs,T,fr,seg,tl,J,fun h=>(by cases h),I⟩
    ·have B:V=.slice none 0 0:=B;exact .inl ⟨rfl,none,0,B,fun h=>by cases h⟩
    ·cases j
  ·rename_i k _ _;simp only[Option.some.injEq,Prod.mk.injEq]at h;obtain⟨j,rfl⟩:=h;refine⟨by simp[zB,H],?_,rfl,?_,fun _=>rfl⟩
   ·unfold zrw at j;split at j
    ·rfl
    ·rfl
    ·cases j
   ·intro L R V B;unfold zrw at j;split at j
    ·rename_i f Z l;simp only[kEq,decide_eq_true_eq]at j;subst j;rcases B with⟨a,b,c,d,_⟩|⟨b,off,cap,cs,T,fr,seg,tl,J,_,I⟩
     ·exact .inl ⟨a,b,c,d,fun h=>by cases h⟩
     ·exact .inr ⟨b,off,cap,cs,T,fr,seg,tl,J,fun h=>(by cases h),I⟩
    ·have B:V=.slice none 0 0:=B;exact .inl ⟨rfl,none,0,B,fun h=>by cases h⟩
    ·cases j
  ·split at h
   ·split at h
    ·rename_i n hn;simp only[Option.some.injEq,Prod.mk.injEq]at h;obtain⟨j,rfl⟩:=h;refine⟨by simp[zB,H],?_,rfl,?_,fun _=>rfl⟩
     ·unfold zrv at j;split at j
      ·rfl
      ·rfl
      ·cases j
     ·intro L R V B;unfold zrv at j;split at j
      ·rename_i f z l;have j:=mE j;subst j;obtain⟨U,B⟩:=B;refine⟨U,?_⟩;rcases B with⟨a,b,c,d,_⟩|⟨b,off,cap,cs,T,fr,seg,tl,J,_,I⟩
       ·exact .inl ⟨a,b,c,d,fun h=>by cases h⟩
       ·exact .inr ⟨b,off,cap,cs,T,fr,seg,tl,J,fun h=>(by cases h),I⟩
      ·have B:V=.slice none 0 0:=B;exact⟨rfl,.inl ⟨rfl,none,0,B,fun h=>by cases h⟩⟩
      ·cases j
    ·cases h
   ·obtain⟨J,O,I,S⟩:=zj0 h;exact⟨by simp[zB,H],J,O,I,S⟩
  ·obtain⟨J,O,I,S⟩:=zj0 h;exact⟨by simp[zB,H],J,O,I,S⟩
 ·cases h
theorem YU{cs:List AV}{k:Nat}(hk:k<cs.length):cs[k]? =some (ziB (.agg cs) k):=by simp only[ziB,mJ hk]
theorem zeF{sy:Bool}{e:TypeId}{cs:List AV}:∀{n k:Nat}{xs:List AV},zcv P sy e (.agg cs) n k=some (true,xs)->k+xs.length<=cs.length->
  (∀L R vs,RelL L R cs vs->RelL L R xs ((vs.drop k).take xs.length))/\(idsL cs=[]->idsL xs=[])
 |0,_,xs,h,_=>by simp only[zcv,Option.some.injEq,Prod.mk.injEq]at h;obtain⟨-,rfl⟩:=h;exact⟨fun _ _ _ _=>by simp[RelL],fun _=>rfl⟩
 |n+1,k,xs,h,hl=>by
  simp only[zcv]at h;split at h
  ·rename_i d x e ys Y O;simp only[Option.some.injEq,Prod.mk.injEq,mF]at h;obtain⟨⟨rfl,rfl⟩,rfl⟩:=h;simp only[mM]at hl⊢;have hk:k<cs.length:=oM
   obtain⟨_,_,_,J,S⟩:=WX Y;obtain⟨i1,Z⟩:=zeF O oM;refine⟨fun L R vs B=>?_,fun H=>?_⟩
   ·obtain⟨V,I,U⟩:=B.get (YU hk);obtain⟨j,rfl⟩:=mG.1 I;rw[uAl j,uAe];exact⟨_,_,rfl,J _ _ _ U,i1 _ _ _ B⟩
   ·simp only[idsL,S (W5 H (YU hk)),Z H,nM]
  ·cases h
theorem zeG{sy:Bool}{cs:List AV}:∀{fs:List (Nat×TypeId)}{k:Nat}{xs:List AV},zcw P sy (.agg cs) fs k=some (true,xs)->k+xs.length<=cs.length->
  (∀L R vs,RelL L R cs vs->RelL L R xs ((vs.drop k).take xs.length))/\(idsL cs=[]->idsL xs=[])
 |[],_,xs,h,_=>by simp only[zcw,Option.some.injEq,Prod.mk.injEq]at h;obtain⟨-,rfl⟩:=h;exact⟨fun _ _ _ _=>by simp[RelL],fun _=>rfl⟩
 |f::r,k,xs,h,hl=>by
  simp only[zcw]at h;split at h
  ·rename_i d x e ys h1 Y O;simp only[Option.some.injEq,Prod.mk.injEq,mF]at h;obtain⟨⟨rfl,rfl⟩,rfl⟩:=h;simp only[mM]at hl⊢;have hk:k<cs.length:=oM
   obtain⟨_,_,_,J,S⟩:=WX Y;obtain⟨i1,Z⟩:=zeG O oM;refine⟨fun L R vs B=>?_,fun H=>?_⟩
   ·obtain⟨V,I,U⟩:=B.get (YU hk);obtain⟨j,rfl⟩:=mG.1 I;rw[uAl j,uAe];exact⟨_,_,rfl,J _ _ _ U,i1 _ _ _ B⟩
   ·simp only[idsL,S (W5 H (YU hk)),Z H,nM]
  ·cases h
theorem zhP{v:AV}{n:Nat}(h:zx0 v n=true):∃cs,v=.agg cs/\cs.length=n:=by
 unfold zx0 at h;split at h
 ·exact⟨_,rfl,mE h⟩
 ·cases h
theorem shapeA_rel{Y:Bool}{t:TypeId}{v x:AV}(h:zhd P Y t v=some (true,x)):
  (zB P t=some true/\∃cs xs,v=.agg cs/\x=.agg xs/\xs.length=cs.length/\(∀L R vs,RelL L R cs vs->RelL L R xs vs)/\(idsL cs=[]->idsL xs=[]))\/
  (zB P t=some false/\jb v=true/\jb x=true/\(∀L R V,Rel L R v V->Rel L R x V)/\(idsV v=[]->idsV x=[])):=by
 have whole:∀{cs xs:List AV},cs.length=xs.length->(∀L R vs,RelL L R cs vs->RelL L R xs ((vs.drop 0).take xs.length))->∀L R vs,RelL L R cs vs->RelL L R xs vs:=by intro cs xs j U L R vs S;have:=U L R vs S;rwa [nS,nQ (by rw[<-j,S.length];exact mH _)]at this
 unfold zhd at h;split at h
 ·rename_i fs H;split at h
  ·split at h
   rotate_left
   ·cases h
   rename_i c xs J;simp only[Option.some.injEq,Prod.mk.injEq,mF]at h;obtain⟨⟨j,rfl⟩,rfl⟩:=h;obtain⟨cs,rfl,B⟩:=zhP j;obtain⟨O,I⟩:=zeG J oM;exact .inl ⟨by simp[zB,H],cs,xs,rfl,rfl,B.symm,whole B O,I⟩
  ·cases h
 ·rename_i n e H;split at h
  ·rename_i c xs J;simp only[Option.some.injEq,Prod.mk.injEq,mF]at h;obtain⟨⟨j,rfl⟩,rfl⟩:=h;obtain⟨cs,rfl,B⟩:=zhP j;obtain⟨O,I⟩:=zeF J oM;exact .inl ⟨by simp[zB,H],cs,xs,rfl,rfl,B.symm,whole B O,I⟩
  ·cases h
 ·exact .inr (WX h)
theorem ziX{z:Nat}:∀(i:Nat){l:List AV}{cs:List Value},RelR L R z l cs->RelR L R z (l.drop i) (cs.drop (i*z))
 |0,l,cs,h=>by simpa using h
 |i+1,[],cs,h=>by have h:cs=[]:=h;subst h;simp[RelR]
 |i+1,x::r,cs,hr=>by
  have key:(∃a b,cs=a++b/\a.length=z/\RelR L R z r b):=by
   cases x with
   |agg xs=>obtain⟨a,b,H,j,B,I⟩:=hr;exact⟨a,b,H,by rw[<-B.length,j],I⟩
   |_=>obtain⟨u,J,H,j,B,I,O⟩:=hr;exact⟨[u],J,H,by simp[j],O⟩
  obtain⟨a,b,rfl,j,B⟩:=key;have:=ziX i B;rw[List.drop_succ_cons,uAD,nZ,<-mZ,<-j,List.drop_left,j];exact this
theorem zbN{z:Nat}:∀(i:Nat){l:List AV}{cs:List Value},RelR L R z l cs->RelR L R z (l.take i) (cs.take (i*z))
 |0,l,cs,h=>by simp[RelR]
 |i+1,[],cs,h=>by have h:cs=[]:=h;subst h;simp[RelR]
 |i+1,x::r,cs,hr=>by
  cases x with
  |agg xs=>
   obtain⟨a,b,rfl,H,j,B⟩:=hr;have ha:a.length=z:=by rw[<-j.length,H]
   rw[uAe,uAD,nZ,<-ha,List.take_length_add_append,ha];exact⟨a,_,rfl,H,j,zbN i B⟩
  |_=>obtain⟨u,J,rfl,rfl,j,B,I⟩:=hr;have:=zbN i I;rw[mX]at this;rw[mX,uAe,uAe];exact⟨u,_,rfl,rfl,j,B,this⟩
end
end Go.Am
