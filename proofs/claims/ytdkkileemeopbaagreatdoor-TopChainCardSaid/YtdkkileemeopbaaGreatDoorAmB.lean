/-
  A part of the proof of the laws.
-/
import Derived.Test.YtdkkileemeopbaaGreatDoorAm18
import Derived.Test.YtdkkileemeopbaaGreatDoorAm27
import Derived.Test.YtdkkileemeopbaaGreatDoorProg
import Derived.Test.YtdkkileemeopbaaGreatDoorChecked
import Derived.Test.YtdkkileemeopbaaGreatDoorShelf
import Derived.Shelf.Strings.SlTrimAscii
import Derived.Shelf.Strings.Builder1
import Derived.WalkKit
import Derived.Shelf.Strings.Builder2
section
set_option maxHeartbeats 4000000
set_option maxRecDepth 100000
namespace Go.Proofs.C06
open Go Go.RowKit Go.Vc Go.Am
def nG:Nat:=14
structure Gd(w:World):Prop where
 maxLen:∃m,w.cell? ⟨2,0,none⟩=some (.int .i64 m)
 pow:Lib.TabIs Tryz.prog w "internal/strconv.uint64pow10" .u64 Lib.pow10Tab
def gl:Glob:=[(5,.agg [.int .u8 36,.int .u8 43,.int .u8 45])]
def GP(R:Ro):Prop:=(∀w:World,(∀b o,R b=some o->w.heap[b]? =some o)->Gd w)/\GlobOK gl R
theorem gd(R:Ro)(w:World)(h:GP R)(hw:∀b o,R b=some o->w.heap[b]? =some o):Gd w:=h.1 w hw
theorem zwJ(R:Ro)(h:GP R):GlobOK gl R:=h.2
theorem zo4:Stays GP:=fun R R' hs h=>⟨fun w hw=>h.1 w fun b o hb=>hw b o (hs b o hb),fun g=>zj hs _ _ (fun i hi=>by rw[J0]at hi;cases hi) (h.2 g)⟩
theorem mixed:Tryz.prog.follows .mixedOrders=true:=Tryz.checked.mixed
theorem bas:Bas Tryz.prog GP gl:=⟨mixed,zwJ,zo4⟩
def jT(vs:List AV)(h:Heap):Option (uBp×uBp):=match vs,h with
 |[.str q0,.str q1],[]=>some (q0,q1)
 |_,_=>none
theorem qg(vs:List AV)(h:Heap)(x:uBp×uBp)(hx:jT vs h=some x):vs=[.str x.1,.str x.2]/\h=[]:=by unfold jT at hx;split at hx<;>cases hx;exact⟨rfl,rfl⟩
def KO(_N:Nat):Con:=Con6.c ⟨131,uBp×uBp,Bool,jT,fun x=>zam x.1 x.2,fun _ r=>⟨.bool r,[]⟩⟩
theorem Qg(N:Nat):SoundC Tryz.prog GP (KO N):=zV gd (fun x=>[.str x.1,.str x.2]) (fun x=>[.string (bs x.1),.string (bs x.2)]) (fun r=>.bool r) (by kernel_rfl) qg (fun _=>rfl) (fun _=>rfl) fun x r w hG h=>by cases h;exact (Tryz.strings_HasPrefix (bs x.1) (bs x.2) w).mono fun e w' ⟨h1,h2⟩=>⟨h1,.of_eq h2⟩
def KR(_N:Nat):Con:=Con6.c ⟨193,uBp×uBp,uBp×Bool,jT,fun x=>zan x.1 x.2,fun _ r=>⟨.tup [.str r.1,.bool r.2],[]⟩⟩
theorem Qh(N:Nat):SoundC Tryz.prog GP (KR N):=zV gd (fun x=>[.str x.1,.str x.2]) (fun x=>[.string (bs x.1),.string (bs x.2)]) (fun r=>.tuple #[.string (bs r.1),.bool r.2]) (by kernel_rfl) qg (fun _=>rfl) (fun _=>rfl) fun x r w hG h=>by cases h;exact (Tryz.strings_CutPrefix (bs x.1) (bs x.2) w).mono fun e w' ⟨h1,h2⟩=>⟨h1,.of_eq h2⟩
def KQ(_N:Nat):Con:=Con6.c ⟨91,uBp×uBp,uBp×Bool,jT,fun x=>qp x.1 x.2,fun _ r=>⟨.tup [.str r.1,.bool r.2],[]⟩⟩
theorem Zj(N:Nat):SoundC Tryz.prog GP (KQ N):=zV gd (fun x=>[.str x.1,.str x.2]) (fun x=>[.string (bs x.1),.string (bs x.2)]) (fun r=>.tuple #[.string (bs r.1),.bool r.2]) (by kernel_rfl) qg (fun _=>rfl) (fun _=>rfl) fun x r w hG h=>by obtain⟨hc,h⟩:=zk h;cases h;exact (Tryz.strings_CutSuffix (bs x.1) (bs x.2) w (by rw[ji];exact Jc hc)).mono fun e w' ⟨h1,h2⟩=>⟨h1,.of_eq h2⟩
def XY(_N:Nat):Con:=Con6.c ⟨177,uBp×uBp,uBp,jT,fun x=>KJ x.1 x.2,fun _ r=>⟨.str r,[]⟩⟩
theorem Yt(N:Nat):SoundC Tryz.prog GP (XY N):=zV gd (fun x=>[.str x.1,.str x.2]) (fun x=>[.string (bs x.1),.string (bs x.2)]) (fun r=>.string (bs r)) (by kernel_rfl) qg (fun _=>rfl) (fun _=>rfl) fun x r w hG h=>by obtain⟨hc,h⟩:=zk h;cases h;exact (Tryz.strings_TrimSuffix (bs x.1) (bs x.2) w (by rw[ji];exact Jc hc)).mono fun e w' ⟨h1,h2⟩=>⟨h1,.of_eq h2⟩
def zgz(vs:List AV)(h:Heap):Option (uBp×Int):=match vs,h with
 |[.str q0,.int .u8 q1],[]=>some (q0,q1)
 |_,_=>none
theorem zvw(vs:List AV)(h:Heap)(x:uBp×Int)(hx:zgz vs h=some x):vs=[.str x.1,.int .u8 x.2]/\h=[]:=by unfold zgz at hx;split at hx<;>cases hx;exact⟨rfl,rfl⟩
def KM(_N:Nat):Con:=Con6.c ⟨162,uBp×Int,Int,zgz,fun x=>ye x.1 x.2,fun _ r=>⟨.int .i64 r,[]⟩⟩
theorem yL(N:Nat):SoundC Tryz.prog GP (KM N):=zV gd (fun x=>[.str x.1,.int .u8 x.2]) (fun x=>[.string (bs x.1),.int .u8 x.2]) (fun r=>.int .i64 r) (by kernel_rfl) zvw (fun _=>rfl) (fun _=>rfl) fun x r w hG h=>by cases h;exact (Tryz.strings_IndexByte (bs x.1) x.2 w).mono fun e w' ⟨h1,h2⟩=>⟨h1,.of_eq h2⟩
def zlK(_N:Nat):Con:=Con6.c ⟨211,uBp×uBp,uBp×uBp×Bool,jT,fun x=>zwB x.1 x.2,fun _ r=>⟨.tup [.str r.1,.str r.2.1,.bool r.2.2],[]⟩⟩
theorem zfy(N:Nat):SoundC Tryz.prog GP (zlK N):=zV gd (fun x=>[.str x.1,.str x.2]) (fun x=>[.string (bs x.1),.string (bs x.2)]) (fun r=>.tuple #[.string (bs r.1),.string (bs r.2.1),.bool r.2.2]) (by kernel_rfl) qg (fun _=>rfl) (fun _=>rfl) fun x r w hG h=>by obtain⟨hc,h⟩:=zk h;cases h;obtain⟨m,hm⟩:=hG.maxLen;exact (Tryz.strings_Cut (bs x.1) (bs x.2) m w (by rw[ji];exact Jc hc) hm).mono fun e w' ⟨h1,n,h2⟩=>⟨h1,h2▸Keeps.drewN _ _⟩
def zfz(_N:Nat):Con:=Con6.c ⟨92,uBp×uBp,Int,jT,fun x=>Zk x.1 x.2,fun _ r=>⟨.int .i64 r,[]⟩⟩
theorem yM(N:Nat):SoundC Tryz.prog GP (zfz N):=zV gd (fun x=>[.str x.1,.str x.2]) (fun x=>[.string (bs x.1),.string (bs x.2)]) (fun r=>.int .i64 r) (by kernel_rfl) qg (fun _=>rfl) (fun _=>rfl) fun x r w hG h=>by
 obtain⟨s,p⟩:=x
 match p,h with
 |[c],h=>cases h;exact (Tryz.strings_Count_one (bs s) c w).mono fun e w' ⟨h1,h2⟩=>⟨h1,.of_eq h2⟩
def WI(_N:Nat):Con:=Con6.c ⟨262,uBp×uBp,Bool,jT,fun x=>Qj x.1 x.2,fun _ r=>⟨.bool r,[]⟩⟩
theorem ZY(N:Nat):SoundC Tryz.prog GP (WI N):=zV gd (fun x=>[.str x.1,.str x.2]) (fun x=>[.string (bs x.1),.string (bs x.2)]) (fun r=>.bool r) (by kernel_rfl) qg (fun _=>rfl) (fun _=>rfl) fun x r w hG h=>by
 obtain⟨s,p⟩:=x
 match p,h with
 |[c],h=>cases h;exact (Tryz.strings_Contains_one (bs s) c w).mono fun e w' ⟨h1,h2⟩=>⟨h1,.of_eq h2⟩
def WE(_N:Nat):Con:=Con6.c ⟨148,uBp×uBp,uBp,jT,fun x=>Jo x.1 x.2,fun _ r=>⟨.str r,[]⟩⟩
theorem ZX(N:Nat):SoundC Tryz.prog GP (WE N):=zV gd (fun x=>[.str x.1,.str x.2]) (fun x=>[.string (bs x.1),.string (bs x.2)]) (fun r=>.string (bs r)) (by kernel_rfl) qg (fun _=>rfl) (fun _=>rfl) fun x r w hG h=>by obtain⟨hc,h⟩:=zk h;obtain⟨hc,ha⟩:=zaJ hc;cases h;exact (Any.strings_TrimLeft_laid Tryz.lays161 (by kernel_rfl) (bs x.1) (bs x.2) w (by rw[ji];exact Jc hc) (Vq ha)).mono fun e w' ⟨h1,h2⟩=>⟨h1,.of_below h2⟩
def KK(_N:Nat):Con:=Con6.c ⟨213,uBp×uBp,uBp,jT,fun x=>zal x.1 x.2,fun _ r=>⟨.str r,[]⟩⟩
theorem Qe(N:Nat):SoundC Tryz.prog GP (KK N):=zV gd (fun x=>[.str x.1,.str x.2]) (fun x=>[.string (bs x.1),.string (bs x.2)]) (fun r=>.string (bs r)) (by kernel_rfl) qg (fun _=>rfl) (fun _=>rfl) fun x r w hG h=>by obtain⟨hc,h⟩:=zk h;obtain⟨hc,ha⟩:=zaJ hc;obtain⟨hc2,ha⟩:=zaJ ha;cases h;exact (Any.strings_TrimRight_laid Tryz.lays162 (by kernel_rfl) (bs x.1) (bs x.2) w (by rw[ji];exact Jc hc) (by rw[ji];exact Jc hc2) (Vq ha)).mono fun e w' ⟨h1,h2⟩=>⟨h1,.of_below h2⟩
def zhQ(_N:Nat):Con:=Con6.c ⟨26,uBp×uBp,uBp,jT,fun x=>ZL x.1 x.2,fun _ r=>⟨.str r,[]⟩⟩
theorem jN(N:Nat):SoundC Tryz.prog GP (zhQ N):=zV gd (fun x=>[.str x.1,.str x.2]) (fun x=>[.string (bs x.1),.string (bs x.2)]) (fun r=>.string (bs r)) (by kernel_rfl) qg (fun _=>rfl) (fun _=>rfl) fun x r w hG h=>by obtain⟨hc,h⟩:=zk h;obtain⟨hc,ha⟩:=zaJ hc;obtain⟨hc2,ha⟩:=zaJ ha;cases h;exact (Any.strings_Trim_laid Tryz.lays160 (by kernel_rfl) (bs x.1) (bs x.2) w (by rw[ji];exact Jc hc) (by rw[ji];exact Jc hc2) (Vq ha)).mono fun e w' ⟨h1,h2⟩=>⟨h1,.of_below h2⟩
def KN(_N:Nat):Con:=Con6.c ⟨149,uBp×uBp,Bool,jT,fun x=>Xe x.1 x.2,fun _ r=>⟨.bool r,[]⟩⟩
theorem Qf(N:Nat):SoundC Tryz.prog GP (KN N):=zV gd (fun x=>[.str x.1,.str x.2]) (fun x=>[.string (bs x.1),.string (bs x.2)]) (fun r=>.bool r) (by kernel_rfl) qg (fun _=>rfl) (fun _=>rfl) fun x r w hG h=>by obtain⟨hc,h⟩:=zk h;cases h;exact (Tryz.strings_HasSuffix (bs x.1) (bs x.2) w (by rw[ji];exact Jc hc)).mono fun e w' ⟨h1,h2⟩=>⟨h1,.of_eq h2⟩
def zgA(vs:List AV)(h:Heap):Option (Int×Int):=match vs,h with
 |[.int .i64 q0,.int .i64 q1],[]=>some (q0,q1)
 |_,_=>none
theorem zvx(vs:List AV)(h:Heap)(x:Int×Int)(hx:zgA vs h=some x):vs=[.int .i64 x.1,.int .i64 x.2]/\h=[]:=by unfold zgA at hx;split at hx<;>cases hx;exact⟨rfl,rfl⟩
def KP(_N:Nat):Con:=Con6.c ⟨194,Int×Int,uBp,zgA,fun x=>znQ x.1 x.2,fun _ r=>⟨.str r,[]⟩⟩
theorem zcx(N:Nat):SoundC Tryz.prog GP (KP N):=zV gd (fun x=>[.int .i64 x.1,.int .i64 x.2]) (fun x=>[.int .i64 x.1,.int .i64 x.2]) (fun r=>.string (bs r)) (by kernel_rfl) zvx (fun _=>rfl) (fun _=>rfl) fun x r w hG h=>by obtain⟨hc,h⟩:=zk h;obtain⟨h10,hc⟩:=zaJ hc;obtain⟨h1,h2⟩:=zaJ hc;cases h;obtain⟨n,b⟩:=x;obtain rfl:b=10:=Jc h10;exact (Tryz.strconv_FormatInt_10 n (Jc h1) (Jc h2) w hG.pow).mono fun e w' ⟨h1,k,os,h2⟩=>⟨h1,h2▸(Keeps.drewN _ _).trans (Keeps.grow _ _)⟩
def zgx(vs:List AV)(h:Heap):Option (uBp×Int):=match vs,h with
 |[.str q0,.int .i32 q1],[]=>some (q0,q1)
 |_,_=>none
theorem zvu(vs:List AV)(h:Heap)(x:uBp×Int)(hx:zgx vs h=some x):vs=[.str x.1,.int .i32 x.2]/\h=[]:=by unfold zgx at hx;split at hx<;>cases hx;exact⟨rfl,rfl⟩
def Yu(_N:Nat):Con:=Con6.c ⟨138,uBp×Int,Bool,zgx,fun x=>YS x.1 x.2,fun _ r=>⟨.bool r,[]⟩⟩
theorem Z0(N:Nat):SoundC Tryz.prog GP (Yu N):=zV gd (fun x=>[.str x.1,.int .i32 x.2]) (fun x=>[.string (bs x.1),.int .i32 x.2]) (fun r=>.bool r) (by kernel_rfl) zvu (fun _=>rfl) (fun _=>rfl) fun x r w hG h=>by obtain⟨hc,h⟩:=zk h;obtain⟨h1,h2⟩:=zaJ hc;cases h;exact (Tryz.strings_ContainsRune_ascii (bs x.1) x.2 w (Jc h1) (Jc h2)).mono fun e w' ⟨h1,h2⟩=>⟨h1,.of_eq h2⟩
def Qi(_N:Nat):Con:=Con6.c ⟨210,uBp×uBp,Bool,jT,fun x=>Z8 x.1 x.2,fun _ r=>⟨.bool r,[]⟩⟩
theorem JX(N:Nat):SoundC Tryz.prog GP (Qi N):=zV gd (fun x=>[.str x.1,.str x.2]) (fun x=>[.string (bs x.1),.string (bs x.2)]) (fun r=>.bool r) (by kernel_rfl) qg (fun _=>rfl) (fun _=>rfl) fun x r w hG h=>by obtain⟨hc,h⟩:=zk h;obtain⟨h1,hc⟩:=zaJ hc;obtain⟨h2,hc⟩:=zaJ hc;obtain⟨h3,h4⟩:=zaJ hc;cases h;exact (Tryz.strings_ContainsAny_laid (bs x.1) (bs x.2) w (by rw[ji];exact Jc h1) (by rw[ji];exact Jc h2) (Vq h3) (Vq h4)).mono fun e w' ⟨h1,h2⟩=>⟨h1,.of_below h2⟩
def zkf(vs:List AV)(h:Heap):Option (Int):=match vs,h with
 |[.int .i32 q0],[]=>some q0
 |_,_=>none
theorem zxa(vs:List AV)(h:Heap)(x:Int)(hx:zkf vs h=some x):vs=[.int .i32 x]/\h=[]:=by unfold zkf at hx;split at hx<;>cases hx;exact⟨rfl,rfl⟩
def zbs(_N:Nat):Con:=Con6.c ⟨164,Int,Int,zkf,fun x=>JT x,fun _ r=>⟨.int .i64 r,[]⟩⟩
theorem JS(N:Nat):SoundC Tryz.prog GP (zbs N):=zV gd (fun x=>[.int .i32 x]) (fun x=>[.int .i32 x]) (fun r=>.int .i64 r) (by kernel_rfl) zxa (fun _=>rfl) (fun _=>rfl) fun x r w hG h=>by cases h;exact (Tryz.utf8_RuneLen x w).mono fun e w' ⟨h1,h2⟩=>⟨h1,.of_eq h2⟩
def zgy(vs:List AV)(h:Heap):Option (uBp×Int):=match vs,h with
 |[.str q0,.int .i64 q1],[]=>some (q0,q1)
 |_,_=>none
theorem zvv(vs:List AV)(h:Heap)(x:uBp×Int)(hx:zgy vs h=some x):vs=[.str x.1,.int .i64 x.2]/\h=[]:=by unfold zgy at hx;split at hx<;>cases hx;exact⟨rfl,rfl⟩
def zdh(_N:Nat):Con:=Con6.c ⟨71,uBp×Int,uBp,zgy,fun x=>jZ x.1 x.2,fun _ r=>⟨.str r,[]⟩⟩
theorem jW(N:Nat):SoundC Tryz.prog GP (zdh N):=zV gd (fun x=>[.str x.1,.int .i64 x.2]) (fun x=>[.string (bs x.1),.int .i64 x.2]) (fun r=>.string (bs r)) (by kernel_rfl) zvv (fun _=>rfl) (fun _=>rfl) fun x r w hG h=>by
 obtain⟨hc,h⟩:=zk h;obtain⟨h1,hc⟩:=zaJ hc;obtain⟨h2,h3⟩:=zaJ hc;have h1:=Jc h1;have h2:=Jc h2;have h3:=Jc h3;cases h;obtain⟨s,c⟩:=x;obtain⟨k,rfl⟩:∃k:Nat,c=k:=⟨c.toNat,by simp only at h1;omega⟩
 simp only[mP]at*
 exact (Tryz.strings_Repeat (bs s) k w (by omega) (by rw[ji];exact h3)).mono fun e w' ⟨h1,h2⟩=>⟨h1,.of_below h2⟩
def zkg(vs:List AV)(h:Heap):Option (Int):=match vs,h with
 |[.int .i64 q0],[]=>some q0
 |_,_=>none
theorem zxb(vs:List AV)(h:Heap)(x:Int)(hx:zkg vs h=some x):vs=[.int .i64 x]/\h=[]:=by unfold zkg at hx;split at hx<;>cases hx;exact⟨rfl,rfl⟩
def zhS(_N:Nat):Con:=Con6.c ⟨241,Int,uBp,zkg,fun x=>zxR x,fun _ r=>⟨.str r,[]⟩⟩
theorem zlI(N:Nat):SoundC Tryz.prog GP (zhS N):=zV gd (fun x=>[.int .i64 x]) (fun x=>[.int .i64 x]) (fun r=>.string (bs r)) (by kernel_rfl) zxb (fun _=>rfl) (fun _=>rfl) fun x r w hG h=>by obtain⟨hc,h⟩:=zk h;obtain⟨h1,h2⟩:=zaJ hc;cases h;exact (Tryz.strconv_Itoa x (Jc h1) (Jc h2) w hG.pow).mono fun e w' ⟨h1,k,os,h2⟩=>⟨h1,h2▸(Keeps.drewN _ _).trans (Keeps.grow _ _)⟩
def zke(vs:List AV)(h:Heap):Option uBp:=match vs,h with
 |[.str q0],[]=>some q0
 |_,_=>none
theorem zw9(vs:List AV)(h:Heap)(x:uBp)(hx:zke vs h=some x):vs=[.str x]/\h=[]:=by unfold zke at hx;split at hx<;>cases hx;exact⟨rfl,rfl⟩
def zhT(_N:Nat):Con:=Con6.c ⟨253,uBp,Int,zke,fun x=>zpy x,fun _ r=>⟨.tup [.int .i64 r,.nili],[]⟩⟩
theorem zdi(N:Nat):SoundC Tryz.prog GP (zhT N):=zV gd (fun x=>[.str x]) (fun x=>[.string (bs x)]) (fun r=>.tuple #[.int .i64 r,.nilIface]) (by kernel_rfl) zw9 (fun _=>rfl) (fun _=>rfl) fun x r w hG h=>by obtain⟨hc,h⟩:=zk h;exact (Tryz.strconv_Atoi (bs x) r (by rw[ji];exact Jc hc) h w).mono fun e w' ⟨h1,t,h2⟩=>⟨h1,by subst h2;exact .of_below (Lib.bytesWorld_below _ _ _)⟩
end Go.Proofs.C06
end
section
set_option maxHeartbeats 4000000
set_option maxRecDepth 100000
namespace Go.Proofs.C06
open Go Go.RowKit Go.Vc Go.Am
theorem zvl(b:Nat)(w:World)(h0:w.cell? ⟨b,0,none⟩=some (.pointer (some ⟨b,0,none⟩))):
  Calls Tryz.prog 202 #[.pointer (some ⟨b,0,none⟩)] w fun e w'=>e=.returned (.tuple #[])/\w'=w:=by
 have hsz:∃j,Tryz.prog.info? 211=some j:=⟨_,rfl⟩
 obtain⟨j,hj⟩:=hsz
 go_enter Tryz.func202,Tryz.ntmps202
 go_wp2
 rw[Lib.run_neq_ptr_same w _ (by kernel_rfl) hj]
 go_wp2
 go_end0
 exact⟨rfl,rfl⟩
theorem ztN(b:Nat)(w:World)(h0:w.cell? ⟨b,0,none⟩=some (.pointer none))(hsh:w.shape? b=some (211,2))(hfz:w.frozen? ⟨b,0,none⟩=false):
  Calls Tryz.prog 202 #[.pointer (some ⟨b,0,none⟩)] w fun e w'=>e=.returned (.tuple #[])/\w'=w.setCell ⟨b,0,none⟩ (.pointer (some ⟨b,0,none⟩)):=by
 have hsz:∃j,Tryz.prog.info? 211=some j/\j.size=2:=⟨_,rfl,by kernel_rfl⟩
 obtain⟨j,hj,hjs⟩:=hsz;have t55:Tryz.prog.underlying 209=some (.pointer 211):=by kernel_rfl
 have t109:Tryz.prog.underlying 321=some (.unsafePointer):=by kernel_rfl
 go_enter Tryz.func202,Tryz.ntmps202
 go_wp2
 rw[Lib.run_to_unsafe w ⟨b,0,none⟩ t55 t109 hj (by rw[hjs];decide) hsh (Nat.zero_lt_succ 1)];simp only[Result.andThen];rw[Oper.upon_value]
 go_wp2
 rw[run_callFunc_extern Tryz.func250 (by kernel_rfl) (by kernel_rfl) (by kernel_rfl) (e:=Extern.AbiNoEscape.same) (by kernel_rfl)];rw[Lib.run_noEscape];simp only[Result.andThen];rw[Oper.upon_value]
 go_wp2
 rw[Lib.run_from_unsafe w ⟨b,0,none⟩ t109 t55 hj hsh (by kernel_rfl)];simp only[Result.andThen];rw[Oper.upon_value]
 go_wp2
 go_end0
 exact⟨rfl,rfl⟩
def zaD(vs:List AV)(h:Heap):Option (AV×Heap):=match vs,h with
 |[.ptr 0 0],some (.cells 211 [.ptr 0 0,v])::h=>some (v,h)
 |_,_=>none
def Vl(vs:List AV)(h:Heap):Option (AV×Heap):=match vs,h with
 |[.ptr 0 0],some (.cells 211 [.nilp,v])::h=>some (v,h)
 |_,_=>none
def zge(_N:Nat):Con:=Con6.c ⟨202,AV×Heap,Unit,zaD,fun _=>some (),fun x _=>⟨.tup [],some (.cells 211 [.ptr 0 0,x.1])::x.2⟩⟩
def zdx(_N:Nat):Con:=Con6.c ⟨202,AV×Heap,Unit,Vl,fun _=>some (),fun x _=>⟨.tup [],some (.cells 211 [.ptr 0 0,x.1])::x.2⟩⟩
theorem qY(N:Nat):SoundC Tryz.prog GP (zge N):=by
 intro args h x r hd hs;have hd:zaD args h=some x:=hd;unfold zaD at hd;split at hd
 ·rename_i v hp hq;cases hd;refine⟨jq (by kernel_rfl),fun R G w vs hGP W hargs=>?_⟩;have F:=QO W;obtain⟨r0,hr,hlk,hv0,hfp,cs,hcs,hrel⟩:=F.look_live (i:=0) rfl;obtain⟨u,us,rfl,⟨f,hf,_,rfl⟩,hus⟩:=hargs;have hus:us=[]:=hus;subst hus;rw[hlk]at hf;cases hf;obtain⟨c0,cr,rfl,⟨f,hf,_,rfl⟩,_⟩:=hrel;rw[hlk]at hf;cases hf;refine(zvl r0.b w (by simp[World.cell?,hcs])).mono fun e w' ⟨he,hw⟩=>?_
  subst hw;exact⟨_,R,G,he,W,F.since,⟨[],rfl,rfl⟩⟩
 ·cases hd
theorem YZ(N:Nat):SoundC Tryz.prog GP (zdx N):=by
 intro args h x r hd hs;have hd:Vl args h=some x:=hd;unfold Vl at hd;split at hd
 ·rename_i v hp hq;cases hd;refine⟨jq (by kernel_rfl),fun R G w vs hGP W hargs=>?_⟩;have F:=QO W;obtain⟨r0,hr,hlk,hv0,hfp,cs,hcs,hrel⟩:=F.look_live (i:=0) rfl;obtain⟨u,us,rfl,⟨f,hf,_,rfl⟩,hus⟩:=hargs;have hus:us=[]:=hus;subst hus;rw[hlk]at hf;cases hf;obtain⟨c0,cr,rfl,h0,c1,cr1,rfl,h1,hcr⟩:=hrel;have hcr:cr1=[]:=hcr;subst hcr;have h0:c0=.pointer none:=h0;subst h0;refine(ztN r0.b w (by simp[World.cell?,hcs]) (by simp[World.shape?,hcs]) (by simp[World.frozen?,hcs])).mono fun e w' ⟨he,hw⟩=>?_
  subst hw;obtain⟨s1,s2⟩:=Ko (o:=0) (v:=.pointer (some ⟨r0.b,0,none⟩)) hcs;obtain⟨F',_⟩:=F.write (i:=0) (ao:=.cells 211 [.ptr 0 0,v]) rfl hr rfl hfp s2 (fun L' hL=>⟨hv0,hfp,_,s1,_,_,rfl,⟨_,hL _ _ hlk,hv0,rfl⟩,_,_,rfl,zj (fun _ _ h=>h) _ _ (fun j _ f hf=>hL j f hf) h1,rfl⟩);exact⟨_,R,G,he,F'.wrel,F'.since,⟨[],rfl,rfl⟩⟩
 ·cases hd
end Go.Proofs.C06
end
section
set_option maxHeartbeats 2000000
set_option maxRecDepth 100000
namespace Go.Proofs.C06
open Go Go.RowKit Go.Vc Go.Am
theorem zum(b g cap:Nat)(p:Value)(cur:Array Value)(fr:Nat×Nat)(l:uBp)(w:World)(hl0:l≠[])(hbk:w.heap[b]? =some (.cells #[p,.slice (some ⟨g,0,none⟩) l.length cap] 211 (0,0)))
  (hg:w.heap[g]? =some (.cells cur 5 fr)) (hn:l.length<=cap) (hcs:l.length<=cur.size) (hsz:l.length<=9223372036854775807) (hcell:∀j x,l[j]? =some x->w.cell? ((⟨g,0,none⟩:Addr).add j)=some (.int .u8 x.toNat)):
  Calls Tryz.prog 135 #[.pointer (some ⟨b,0,none⟩)] w fun e w'=>e=.returned (.string ⟨l.toArray⟩)/\w'=w.drew.freeze ⟨g,0,none⟩ l.length:=by
 have hlen:l.length≠0:=by simpa using hl0
 have mixed:=Tryz.checked.mixed;have c1:w.drew.cell? ⟨b,1,none⟩=some (.slice (some ⟨g,0,none⟩) l.length cap):=by have:w.drew.heap[b]? =some (.cells #[p,.slice (some ⟨g,0,none⟩) l.length cap] 211 (0,0)):=hbk;rw[Lib.cell_of_heap this];rfl
 have hSD:(Builtin.unsafeSliceData_ #[22] 286 #[.slice (some ⟨g,0,none⟩) l.length cap]).run Tryz.prog w.drew=.ok (.pointer (some ⟨g,0,none⟩)) w.drew:=
  Lib.run_unsafeSliceData_row _ _ _ _ _ _ (by omega)
 have hUS:(Builtin.unsafeString_ #[286,3] 9 #[.pointer (some ⟨g,0,none⟩),.int .i64 l.length]).run Tryz.prog w.drew=.ok (.string ⟨l.toArray⟩) (w.drew.freeze ⟨g,0,none⟩ l.length):=by refine Lib.run_unsafeString_row w.drew 286 3 9 5 (by kernel_rfl) (by kernel_rfl) g cur.size (by have hg':w.drew.heap[g]? =some (.cells cur 5 fr):=hg;simp[World.shape?,hg']) l hl0 hcs hsz hcell
 go_enter Tryz.func135,Tryz.ntmps135
 go_wp2
 go_region_o
 all_goals (go_wp2;go_ret;exact⟨rfl,rfl⟩)
theorem zo3(b:Nat)(p:Value)(w:World)(hbk:w.heap[b]? =some (.cells #[p,.slice none 0 0] 211 (0,0))):
  Calls Tryz.prog 135 #[.pointer (some ⟨b,0,none⟩)] w fun e w'=>e=.returned (.string ⟨#[]⟩)/\w'=w.drew:=by
 have mixed:=Tryz.checked.mixed;have hUS:(Builtin.unsafeString_ #[286,3] 9 #[.pointer none,.int .i64 0]).run Tryz.prog w.drew=.ok (.string .empty) w.drew:=Lib.run_unsafeString_none w.drew _ _ _ _;have c1:w.drew.cell? ⟨b,1,none⟩=some (.slice none 0 0):=by have:w.drew.heap[b]? =some (.cells #[p,.slice none 0 0] 211 (0,0)):=hbk;rw[Lib.cell_of_heap this];rfl
 have hSD:(Builtin.unsafeSliceData_ #[22] 286 #[.slice none 0 0]).run Tryz.prog w.drew=.ok (.pointer none) w.drew:=rfl
 go_enter Tryz.func135,Tryz.ntmps135
 go_wp2
 go_region_o
 all_goals (go_wp2;go_ret;exact⟨rfl,rfl⟩)
theorem zrY(b g cap:Nat)(p:Value)(w:World)(hc0:cap≠0)(hbk:w.heap[b]? =some (.cells #[p,.slice (some ⟨g,0,none⟩) 0 cap] 211 (0,0))):
  Calls Tryz.prog 135 #[.pointer (some ⟨b,0,none⟩)] w fun e w'=>e=.returned (.string ⟨#[]⟩)/\w'=w.drew:=by
 have mixed:=Tryz.checked.mixed;have hUS:(Builtin.unsafeString_ #[286,3] 9 #[.pointer (some ⟨g,0,none⟩),.int .i64 0]).run Tryz.prog w.drew=.ok (.string .empty) w.drew:=Lib.run_unsafeString_none w.drew _ _ _ _;have c1:w.drew.cell? ⟨b,1,none⟩=some (.slice (some ⟨g,0,none⟩) 0 cap):=by have:w.drew.heap[b]? =some (.cells #[p,.slice (some ⟨g,0,none⟩) 0 cap] 211 (0,0)):=hbk;rw[Lib.cell_of_heap this];rfl
 have hSD:(Builtin.unsafeSliceData_ #[22] 286 #[.slice (some ⟨g,0,none⟩) 0 cap]).run Tryz.prog w.drew=.ok (.pointer (some ⟨g,0,none⟩)) w.drew:=
  Lib.run_unsafeSliceData_row _ _ _ _ _ _ hc0
 clear hc0
 go_enter Tryz.func135,Tryz.ntmps135
 go_wp2
 go_region_o
 all_goals (go_wp2;go_ret;exact⟨rfl,rfl⟩)
theorem zm6(b g:Nat)(p:Value)(cur:Array Value)(fr:Nat×Nat)(w:World)(hbk:w.heap[b]? =some (.cells #[p,.slice (some ⟨g,0,none⟩) 0 0] 211 (0,0)))(hg:w.heap[g]? =some (.cells cur 5 fr)):
  Calls Tryz.prog 135 #[.pointer (some ⟨b,0,none⟩)] w fun e w'=>e=.returned (.string ⟨#[]⟩)/\Vc.Keeps [] w w':=by
 have mixed:=Tryz.checked.mixed;have hUS:∀W q,(Builtin.unsafeString_ #[286,3] 9 #[.pointer q,.int .i64 0]).run Tryz.prog W=.ok (.string .empty) W:=fun W q=>Lib.run_unsafeString_none W _ _ _ _
 have hlt:b<w.heap.size:=(Array.getElem?_eq_some_iff.1 hbk).1;have c1:w.drew.cell? ⟨b,1,none⟩=some (.slice (some ⟨g,0,none⟩) 0 0):=by have:w.drew.heap[b]? =some (.cells #[p,.slice (some ⟨g,0,none⟩) 0 0] 211 (0,0)):=hbk;rw[Lib.cell_of_heap this];rfl
 have hSD:(Builtin.unsafeSliceData_ #[22] 286 #[.slice (some ⟨g,0,none⟩) 0 0]).run Tryz.prog w.drew=.ok (.pointer (some ⟨w.drew.heap.size,0,none⟩)) (w.drew.alloc (.view ⟨g,0,none⟩ 5)):=
  Lib.run_unsafeSliceData_zero w.drew _ _ 5 (by kernel_rfl) ⟨g,0,none⟩ 0 (5,cur.size) (by have hg':w.drew.heap[g]? =some (.cells cur 5 fr):=hg;simp[World.shape?,hg'])
 have c2:(w.drew.alloc (.view ⟨g,0,none⟩ 5)).cell? ⟨b,1,none⟩=some (.slice (some ⟨g,0,none⟩) 0 0):=by have:(w.drew.alloc (.view ⟨g,0,none⟩ 5)).heap[b]? =_:=(Lib.alloc_old w.drew _ b hlt).trans hbk;rw[Lib.cell_of_heap this];rfl
 have c3:(w.alloc (.view ⟨g,0,none⟩ 5)).drew.cell? ⟨b,1,none⟩=some (.slice (some ⟨g,0,none⟩) 0 0):=c2;have c0:w.cell? ⟨b,1,none⟩=some (.slice (some ⟨g,0,none⟩) 0 0):=c1
 go_enter Tryz.func135,Tryz.ntmps135
 go_wp2
 go_region_o
 all_goals (go_wp2;go_ret;exact⟨rfl,.of_below ((Below.drew (Below.refl _ w)).alloc (mG _) _)⟩)
theorem zxg{R:Ro}{G:List Res}{w w':World}{v:AV}{l:uBp}{r1:Res}(W:WRel R G [some (.cells 211 [.ptr 0 0,v]),some (.bytes 5 l)] w)(hr1:G[1]? =some r1)(k:Keeps r1.fp w w'):
  WRel R G [some (.cells 211 [.ptr 0 0,.undef]),none] w'/\Since ⟨R,Am.look G [some (.cells 211 [.ptr 0 0,v]),some (.bytes 5 l)],fpsAll G [some (.cells 211 [.ptr 0 0,v]),some (.bytes 5 l)],w,2⟩ R G [some (.cells 211 [.ptr 0 0,.undef]),none] w':=by
 have F:=QO W;obtain⟨r0,hr0,hlk0,hv0,hfp0,cs,hcs,hrel⟩:=F.look_live (i:=0) rfl;have two:∀{h:Heap}{i:Nat},h.length=2->i∉[0,1]->¬live h i:=fun hl hi hlv=>by have:=jt hlv;simp at hi;omega
 have dead1:¬live [some (.cells 211 [.ptr 0 0,.undef]),none] 1:=fun⟨o,ho⟩=>by simp[hget]at ho
 refine yI (G':=G) (h':=[some (.cells 211 [.ptr 0 0,.undef]),none]) (A:=[0,1]) (Fr:=fun _=>False) F.wrel F.since k
  (fun b hb=>.inr ⟨1,r1,by simp,⟨_,rfl⟩,hr1,hb⟩) (fun _ h=>h.elim) (by simpa using W.len) (by simp) (fun i hi hl=>(two rfl hi hl).elim)
  (fun i o hi ho=>(two rfl hi ⟨o,ho⟩).elim) (fun _ _ h=>h) (fun b o h1 h2=>by rw[h1]at h2;cases h2)
  (fun i o r hi ho hr=>?_) (fun i j ri rj hij hi hj hli hlj=>?_) (fun i hi hA hl=>?_)
 ·rcases mU.1 hi with rfl|hi
  ·have ho:some (AO.cells 211 [.ptr 0 0,.undef])=some o:=ho;cases ho;rw[hr0]at hr;cases hr;obtain⟨c0,cr,rfl,⟨f,hf,hfv,rfl⟩,c1,cr1,rfl,h1,hcr⟩:=hrel;have hcr:cr1=[]:=hcr;subst hcr;rw[hlk0]at hf;cases hf;refine⟨⟨hv0,hfp0,[.pointer (some ⟨r0.b,0,none⟩),c1],?_,_,_,rfl,⟨_,zU (o:=.cells 211 [.ptr 0 0,.undef]) rfl hr0,hv0,rfl⟩,_,_,rfl,trivial,rfl⟩,fun b hb=>⟨W.sepR 0 r0 ⟨_,rfl⟩ hr0 b hb,.inr (.inl ⟨0,r0,by simp,⟨_,rfl⟩,hr0,hb⟩)⟩⟩;rw[k.block r0.b (zS hcs) (fun hm=>W.sep 0 1 r0 r1 (by simp) ⟨_,rfl⟩ ⟨_,rfl⟩ hr0 hr1 r0.b (by rw[hfp0];simp) hm)];exact hcs
  ·have hi:i=1:=by simpa using hi
   subst hi;exact (dead1 ⟨o,ho⟩).elim
 ·have z:∀x,x∈[0,1]->live [some (.cells 211 [.ptr 0 0,.undef]),none] x->x=0:=by
   intro x hx hl;rcases mU.1 hx with rfl|hx
   ·rfl
   ·have hx:x=1:=by simpa using hx
    subst hx;exact (dead1 hl).elim
  exact (hij ((z i hi hli).trans (z j hj hlj).symm)).elim
 ·rcases mU.1 hA with rfl|hA
  ·show Am.look G _ 0=Am.look G _ 0;rw[zU (o:=.cells 211 [.ptr 0 0,.undef]) rfl hr0,zU (o:=.cells 211 [.ptr 0 0,v]) rfl hr0];rfl
  ·have hA:i=1:=by simpa using hA
   subst hA;exact (dead1 hl).elim
theorem zun{b:Nat}{p V:Value}{l:uBp}{r:Res}{w:World}(hbk:w.heap[b]? =some (.cells #[p,V] 211 (0,0)))(hrow:RowAt w r 5 1 l.length (fun cs=>cs=l.map u8V))(hV:V=yo r l.length)(hc:r.cap<=maxLen\/l.length<=maxLen):
  Calls Tryz.prog 135 #[.pointer (some ⟨b,0,none⟩)] w fun e w'=>e=.returned (.string (bs l))/\Keeps r.fp w w':=by
 subst hV;have hlm:l.length<=9223372036854775807:=by
  rcases hrow with⟨_,h0,_⟩|⟨_,_,hle,_⟩
  ·omega
  ·rcases hc with hc|hc
   ·exact nD hle hc
   ·exact hc
 rcases hrow with⟨g1,g2,g3,g4⟩|⟨g1,g2,g3,cs,tl,fr,g4,g5,g6,g7,g8⟩
 ·have hl:l=[]:=nB.1 g2;subst hl;rw[show yo r ([]:uBp).length=.slice none 0 0 by simp[yo,g1]]at hbk;exact (zo3 b p w hbk).mono fun e w' ⟨he,hw⟩=>⟨he,by subst hw;exact Keeps.drawn w _⟩
 ·rw[show yo r l.length=.slice (some ⟨r.b,0,none⟩) l.length r.cap by simp[yo,g1]]at hbk;rw[g2];have hd:Keeps [r.b] w w.drew:=Keeps.drawn w _;by_cases hl:l=[]
  ·subst hl;by_cases hcap:r.cap=0
   ·rw[hcap]at hbk;exact (zm6 b r.b p _ fr w hbk g4).mono fun e w' ⟨he,hw⟩=>⟨he,hw.wide⟩
   ·exact (zrY b r.b r.cap p w hcap hbk).mono fun e w' ⟨he,hw⟩=>⟨he,by subst hw;exact hd⟩
  ·have hg6:cs.length=l.length:=by rw[g5];simp
   refine(zum b r.b r.cap p _ fr l w hl hbk g4 g3 (by simp;omega) hlm (fun j x hj=>?_)).mono fun e w' ⟨he,hw⟩=>⟨he,?_⟩
   ·rw[QQ,uAE];have hjl:j<l.length:=(mF.1 hj).1;simp only[World.cell?,g4];have:(cs++tl).toArray[j]? =some (u8V x):=by simp only[uBh];rw[mW (by omega),g5,nV,hj];rfl
    simpa[u8V]using this
   ·subst hw;refine hd.trans ⟨by unfold World.freeze;split<;>rfl,by unfold World.freeze;split<;>rfl,by unfold World.freeze;split<;>rfl,by unfold World.freeze;split<;>simp,fun k hk hne=>?_⟩;have hne:k≠r.b:=by simpa using hne
    unfold World.freeze;split
    ·rfl
    ·simp[Array.getElem?_modify,Ne.symm hne]
def KI(l:uBp):Bool:=decide (l.length<=9223372036854775807)
def zgm(vs:List AV)(h:Heap):Option (Bool×uBp):=match vs,h with
 |[.ptr 0 0],[some (.cells 211 [.ptr 0 0,.rw 1]),some (.bytes 5 l)]=>some (false,l)
 |[.ptr 0 0],[some (.cells 211 [.ptr 0 0,.rwp 1]),some (.bytes 5 l)]=>some (true,l)
 |_,_=>none
def zmE(_N:Nat):Con:=Con6.c ⟨135,Bool×uBp,uBp,zgm,fun x=>chk (KI x.2) (some x.2),fun _ l=>⟨.str l,[some (.cells 211 [.ptr 0 0,.undef]),none]⟩⟩
theorem XK(N:Nat):SoundC Tryz.prog GP (zmE N):=by
 intro args h x r hd hs;have hd:zgm args h=some x:=hd;have hs:chk (KI x.2) (some x.2)=some r:=hs;obtain⟨hm,hs⟩:=zk hs;cases hs;have hm:=of_decide_eq_true hm;have key:∀{v:AV}{l:uBp},l.length<=9223372036854775807->(∀(L:Lk)(R:Ro)(r1:Res)(V:Value),L 1=some ⟨r1.b,r1.virt,r1.cap,l.length⟩->Rel L R v V->V=yo r1 l.length)->
   ∀R G w vs,GP R->WRel R G [some (.cells 211 [.ptr 0 0,v]),some (.bytes 5 l)] w->RelL (Am.look G [some (.cells 211 [.ptr 0 0,v]),some (.bytes 5 l)]) R [.ptr 0 0] vs->
   Calls Tryz.prog 135 vs.toArray w fun e w'=>∃V R' G',e=.returned V/\WRel R' G' [some (.cells 211 [.ptr 0 0,.undef]),none] w'/\
   Since ⟨R,Am.look G [some (.cells 211 [.ptr 0 0,v]),some (.bytes 5 l)],fpsAll G [some (.cells 211 [.ptr 0 0,v]),some (.bytes 5 l)],w,2⟩ R' G' [some (.cells 211 [.ptr 0 0,.undef]),none] w'/\Rel (Am.look G' [some (.cells 211 [.ptr 0 0,.undef]),none]) R' (.str l) V:=by
  intro v l hlm hv R G w vs hGP W hargs;have F:=QO W;obtain⟨r0,hr0,hlk0,hv0,hfp0,cs,hcs,hrel⟩:=F.look_live (i:=0) rfl;obtain⟨r1,hr1,hlk1,hrow⟩:=F.look_live (i:=1) rfl;obtain⟨u,us,rfl,⟨f,hf,_,rfl⟩,hus⟩:=hargs;have hus:us=[]:=hus;subst hus;rw[hlk0]at hf;cases hf;obtain⟨c0,cr,rfl,h0,c1,cr1,rfl,h1,hcr⟩:=hrel;have hcr:cr1=[]:=hcr;subst hcr;have hV:=hv _ _ r1 _ hlk1 h1;simp only[ObjRel]at hrow;refine(zun hcs hrow hV (.inr hlm)).mono fun e w' ⟨he,hk⟩=>?_
  obtain⟨g1,g2⟩:=zxg W hr1 hk;exact⟨_,R,G,he,g1,g2,rfl⟩
 unfold zgm at hd;split at hd
 ·cases hd;refine⟨jq (by kernel_rfl),key hm fun L R r1 V hL hV=>?_⟩;obtain⟨f,hf,h2,h3⟩:=hV;rw[hL]at hf;cases hf;unfold yo;cases hv:r1.virt with
  |true=>simp only[if_true];exact (h2 hv).2
  |false=>simp only[nC,if_false];exact h3 hv
 ·cases hd;refine⟨jq (by kernel_rfl),key hm fun L R r1 V hL hV=>?_⟩;obtain⟨f,hf,h2,_,h3⟩:=hV;rw[hL]at hf;cases hf;unfold yo;rw[if_neg (by simpa using h2)];exact h3
 ·cases hd
def zcX(vs:List AV)(h:Heap):Option Unit:=match vs,h with
 |[.ptr 0 0],[some (.cells 211 [.nilp,.nils])]=>some ()
 |_,_=>none
def zik(_N:Nat):Con:=Con6.c ⟨135,Unit,Unit,zcX,fun _=>some (),fun _ _=>⟨.str [],[some (.cells 211 [.nilp,.nils])]⟩⟩
theorem zdA(N:Nat):SoundC Tryz.prog GP (zik N):=by
 intro args h x r hd hs;have hd:zcX args h=some x:=hd;unfold zcX at hd;split at hd
 ·cases hd;refine⟨jq (by kernel_rfl),fun R G w vs hGP W hargs=>?_⟩;have F:=QO W;obtain⟨r0,hr0,hlk0,hv0,hfp0,cs,hcs,hrel⟩:=F.look_live (i:=0) rfl;obtain⟨u,us,rfl,⟨f,hf,_,rfl⟩,hus⟩:=hargs;have hus:us=[]:=hus;subst hus;rw[hlk0]at hf;cases hf;obtain⟨c0,cr,rfl,h0,c1,cr1,rfl,h1,hcr⟩:=hrel;have hcr:cr1=[]:=hcr;subst hcr;have h1:c1=.slice none 0 0:=h1;subst h1;refine(zo3 r0.b c0 w hcs).mono fun e w' ⟨he,hw⟩=>?_
  subst hw;have F':=F.keep (Keeps.drawn w (w.drew).drawn:Keeps [] w w.drew);exact⟨_,R,G,he,F'.wrel,F'.since,rfl⟩
 ·cases hd
end Go.Proofs.C06
end
section
set_option maxHeartbeats 4000000
set_option maxRecDepth 100000
namespace Go.Proofs.C06
open Go Go.RowKit Go.Vc Go.Am
def zx7(b n:Nat)(w:World)(e:Ending)(w':World):Prop:=e=.returned (.tuple #[])/\Keeps [b] w w'/\∃g cap cs,w.heap.size<=g/\n<=cap/\cs.size=cap/\w'.heap[b]? =some (.cells #[.pointer (some ⟨b,0,none⟩),.slice (some ⟨g,0,none⟩) 0 cap] 211 (0,0))/\w'.heap[g]? =some (.cells cs 5 (0,0))
theorem zuY{b n:Nat}{w:World}{cs:Array Value}(hbk:w.heap[b]? =some (.cells #[.pointer (some ⟨b,0,none⟩),.slice none 0 0] 211 (0,0)))(hle:n<=cs.size):
  zx7 b n w (.returned (.tuple #[])) ((w.setCell ⟨b,1,none⟩ (.slice (some ⟨w.heap.size,0,none⟩) 0 cs.size)).alloc (.cells cs 5)).drew.drew.drew:=by
 have hlt:b<w.heap.size:=zS hbk;obtain⟨s1,s2⟩:=Ko (o:=1) (v:=.slice (some ⟨w.heap.size,0,none⟩) 0 cs.size) (cs:=[.pointer (some ⟨b,0,none⟩),.slice none 0 0]) hbk;have hz:(w.setCell ⟨b,1,none⟩ (.slice (some ⟨w.heap.size,0,none⟩) 0 cs.size)).heap.size=w.heap.size:=by simp[World.setCell]
 generalize w.setCell ⟨b,1,none⟩ (.slice (some ⟨w.heap.size,0,none⟩) 0 cs.size)=W at s1 s2 hz;have kd:Keeps [b] W (W.alloc (.cells cs 5)).drew.drew.drew:=(Keeps.of_below (((((Below.refl _ W).alloc (mG _) _).drew).drew).drew)).mono (by simp);refine⟨rfl,s2.trans kd,w.heap.size,cs.size,cs,mG _,hle,rfl,?_,?_⟩
 ·exact (Lib.alloc_old W _ b (by omega)).trans s1
 ·rw[<-hz];exact heap_alloc_new W _
theorem zsZ(b n:Nat)(w:World)(hbk:w.heap[b]? =some (.cells #[.pointer (some ⟨b,0,none⟩),.slice none 0 0] 211 (0,0)))(hn:n<=281474976710656):
  Calls Tryz.prog 203 #[.pointer (some ⟨b,0,none⟩),.int .i64 n] w (zx7 b n w):=by
 have mixed:=Tryz.checked.mixed;have t33:Tryz.prog.underlying 22=some (.slice 5):=by kernel_rfl
 obtain⟨cs,hrun,hle,hmax⟩:=Lib.run_makeNoZero (P:=Tryz.prog) w.drew #[3] 22 5 t33 n hn;have hw:IntKind.i64.wrap (IntKind.i64.wrap 0+(n:Int))=n:=by rw[IntKind.wrap_i64,IntKind.wrap_i64];omega
 have hcall:(callFunc 163 #[.int .i64 (IntKind.i64.wrap (IntKind.i64.wrap 0+(n:Int)))]).run Tryz.prog w.drew=.ok (.value (.slice (some ⟨w.drew.heap.size,0,none⟩) n cs.size)) (w.drew.drew.drew.alloc (.cells cs 5)):=by rw[hw,run_callFunc_extern Tryz.func163 (by kernel_rfl) (by kernel_rfl) (by kernel_rfl) (e:=Extern.BytealgMakeNoZero.makeNoZero #[3] #[22]) (by kernel_rfl),hrun];rfl
 have hlt:b<w.heap.size:=zS hbk;have c1:w.drew.cell? ⟨b,1,none⟩=some (.slice none 0 0):=by have:w.drew.heap[b]? =_:=hbk;rw[Lib.cell_of_heap this];rfl
 have hb2:(w.alloc (.cells cs 5)).heap[b]? =some (.cells #[.pointer (some ⟨b,0,none⟩),.slice none 0 0] 211 (0,0)):=(Lib.alloc_old w _ b hlt).trans hbk;have c2:(w.alloc (.cells cs 5)).cell? ⟨b,1,none⟩=some (.slice none 0 0):=by rw[Lib.cell_of_heap hb2];rfl
 have f2:(w.alloc (.cells cs 5)).frozen? ⟨b,1,none⟩=false:=Lib.frozen_of_heap hb2 1;have hsz:∃j,Tryz.prog.info? 5=some j/\j.size=1:=⟨_,rfl,by kernel_rfl⟩
 obtain⟨j,hj,hjs⟩:=hsz;have hcopy:∀W:World,(Builtin.copy_ #[22,22] 3 #[.slice (some ⟨w.heap.size,0,none⟩) 0 cs.size,.slice none 0 0]).run Tryz.prog W=.ok (goInt 0) W:=
  fun W=>run_copy_none W 22 22 3 5 _ _ 0 cs.size 0 0 t33 (by kernel_rfl) rfl
 have hfin:=zuY (w:=w) hbk hle;clear hw hj hjs
 go_enter Tryz.func203,Tryz.ntmps203
 go_wp2
 go_region_o
 all_goals (go_wp2;go_end0;exact hfin)
end Go.Proofs.C06
end
section
set_option maxHeartbeats 4000000
set_option maxRecDepth 100000
namespace Go.Proofs.C06
open Go Go.RowKit Go.Vc Go.Am
def zcZ(vs:List AV)(h:Heap):Option Int:=match vs,h with
 |[.ptr 0 0,.int .i64 n],[some (.cells 211 [.ptr 0 0,.nils])]=>some n
 |_,_=>none
def Q3(n:Int):Bool:=match n with
 |.ofNat m=>Nat.ble 1 m&&Nat.ble m 281474976710656
 |_=>false
theorem znn{n:Int}(h:Q3 n=true):1<=n/\n<=281474976710656:=by
 unfold Q3 at h;split at h
 ·simp only[mD,uA9]at h;simp only[uBk];omega
 ·cases h
def zil(_N:Nat):Con:=Con6.c ⟨203,Int,Unit,zcZ,fun n=>chk (Q3 n) (some ()),fun _ _=>⟨.tup [],[some (.cells 211 [.ptr 0 0,.rwp 1]),some (.bytes 5 [])]⟩⟩
theorem zdB(N:Nat):SoundC Tryz.prog GP (zil N):=by
 intro args h (n:Int) r hd hs;have hd:zcZ args h=some n:=hd;have hs:chk (Q3 n) (some ())=some r:=hs;obtain⟨hm,hs⟩:=zk hs;obtain⟨hm1,hm2⟩:=znn hm;unfold zcZ at hd;split at hd
 ·cases hd;refine⟨jq (by kernel_rfl),fun R G w vs hGP W hargs=>?_⟩;have F:=QO W;obtain⟨r0,hr0,hlk0,hv0,hfp0,cs,hcs,hrel⟩:=F.look_live (i:=0) rfl;obtain⟨u,us,rfl,⟨f,hf,_,rfl⟩,u2,us2,rfl,rfl,hus⟩:=hargs;have hus:us2=[]:=hus;subst hus;rw[hlk0]at hf;cases hf;obtain⟨c0,cr,rfl,⟨f,hf,_,rfl⟩,c1,cr1,rfl,h1,hcr⟩:=hrel;have hcr:cr1=[]:=hcr;subst hcr;have h1:c1=.slice none 0 0:=h1;subst h1;rw[hlk0]at hf;cases hf;obtain⟨k,rfl⟩:∃k:Nat,n=k:=⟨n.toNat,by omega⟩
  refine(zsZ r0.b k w hcs (by omega)).mono fun e w' ⟨he,kp,g,cap,cells,hg,hcap,hsz,hb',hg'⟩=>?_
  have hlt:r0.b<w.heap.size:=zS hcs;have hG:G.length=1:=by simpa using W.len
  have hG0:∀r',[r0,⟨g,false,cap,[g]⟩][0]? =some r'->r'=r0:=fun r' h=>by simpa using h.symm
  have l0:Am.look [r0,(⟨g,false,cap,[g]⟩:Res)] [some (.cells 211 [.ptr 0 0,.rwp 1]),some (.bytes 5 [])] 0=some ⟨r0.b,r0.virt,r0.cap,0⟩:=rfl;have l1:Am.look [r0,(⟨g,false,cap,[g]⟩:Res)] [some (.cells 211 [.ptr 0 0,.rwp 1]),some (.bytes 5 [])] 1=some ⟨g,false,cap,0⟩:=rfl;have two:∀{h:Heap}{i:Nat},h.length=2->i∉[0,1]->¬live h i:=fun hl hi hlv=>by have:=jt hlv;simp at hi;omega
  obtain⟨s1,s2⟩:=yI (R':=R) (G':=[r0,⟨g,false,cap,[g]⟩]) (h':=[some (.cells 211 [.ptr 0 0,.rwp 1]),some (.bytes 5 [])]) (A:=[0,1]) (Fr:=fun _=>False) F.wrel F.since kp
   (fun b hb=>.inr ⟨0,r0,by simp,⟨_,rfl⟩,hr0,by rw[hfp0];exact hb⟩) (fun _ h=>h.elim) rfl (by simp) (fun i hi hl=>(two rfl hi hl).elim)
   (fun i o hi ho=>(two rfl hi ⟨o,ho⟩).elim) (fun _ _ h=>h) (fun b o h1 h2=>by rw[h1]at h2;cases h2)
   (fun i o r hi ho hr=>by
    rcases mU.1 hi with rfl|hi
    ·have ho:some (AO.cells 211 [.ptr 0 0,.rwp 1])=some o:=ho;cases ho;have hr:=hG0 _ hr;subst hr;exact⟨⟨hv0,hfp0,[.pointer (some ⟨r.b,0,none⟩),.slice (some ⟨g,0,none⟩) 0 cap],hb',_,_,rfl,⟨_,l0,hv0,rfl⟩,_,_,rfl,⟨_,l1,rfl,by show 1<=cap;omega,rfl⟩,rfl⟩,
      fun b hb=>⟨W.sepR 0 r ⟨_,rfl⟩ hr0 b hb,.inr (.inl ⟨0,r,by simp,⟨_,rfl⟩,hr0,hb⟩)⟩⟩
    ·have hi:i=1:=by simpa using hi
     subst hi;have ho:some (AO.bytes 5 [])=some o:=ho;cases ho;have hr:some (⟨g,false,cap,[g]⟩:Res)=some r:=hr;cases hr;refine⟨.inr ⟨rfl,rfl,uAN _,[],cells.toList,(0,0),by simpa using hg',rfl,rfl,by have:=hsz;simp;omega,mG _,fun j _ h2=>by omega⟩,fun b hb=>?_⟩;have hb:b=g:=by simpa using hb
     subst hb;refine⟨?_,.inr (.inr hg)⟩;cases hrb:R b with
     |none=>rfl
     |some ob=>have:=zS (W.ro _ _ hrb);omega)
   (fun i j ri rj hij hi hj hli hlj hri hrj b hb=>by
    have z:∀x,x∈[0,1]->x=0\/x=1:=by simp
    have f0:∀r,[r0,(⟨g,false,cap,[g]⟩:Res)][0]? =some r->r.fp=[r0.b]:=fun r h=>by have h:=hG0 _ h;subst h;exact hfp0
    have f1:∀r,[r0,(⟨g,false,cap,[g]⟩:Res)][1]? =some r->r.fp=[g]:=fun r h=>by have h:some (⟨g,false,cap,[g]⟩:Res)=some r:=h;cases h;rfl
    rcases z i hi with rfl|rfl<;>rcases z j hj with rfl|rfl
    ·exact (hij rfl).elim
    ·rw[f0 _ hri]at hb;rw[f1 _ hrj];simp only[mL]at hb⊢;omega
    ·rw[f1 _ hri]at hb;rw[f0 _ hrj];simp only[mL]at hb⊢;omega
    ·exact (hij rfl).elim)
   (fun i hi hA hl=>by
    have hi:i<1:=hi;have hi:i=0:=by omega
    subst hi;show Am.look _ _ 0=Am.look G _ 0;rw[l0,zU (o:=.cells 211 [.ptr 0 0,.nils]) rfl hr0];rfl)
  exact⟨_,R,_,he,s1,s2,⟨[],rfl,rfl⟩⟩
 ·cases hd
end Go.Proofs.C06
end
