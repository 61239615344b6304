/-
  A part of the proof of the laws.
-/
import Derived.Test.YtckmndepnihanaaGreatDoorAm18
import Derived.Test.YtckmndepnihanaaGreatDoorAm27
import Derived.Test.YtckmndepnihanaaGreatDoorProg
import Derived.Test.YtckmndepnihanaaGreatDoorChecked
import Derived.Test.YtckmndepnihanaaGreatDoorShelf
import Derived.Shelf.Strings.SlTrimAscii
import Derived.Shelf.Strings.Builder1
import Derived.WalkKit
import Derived.Shelf.Strings.Builder2
section
set_option maxHeartbeats 4000000
set_option maxRecDepth 100000
namespace Go.Proofs.C06
open Go Go.RowKit Go.Vc Go.Am
def nG:Nat:=13
structure Gd(w:World):Prop where
 maxLen:∃m,w.cell? ⟨2,0,none⟩=some (.int .i64 m)
 pow:Lib.TabIs Tryz.prog w "internal/strconv.uint64pow10" .u64 Lib.pow10Tab
def gl:Glob:=[(3,.agg [.int .u8 36,.int .u8 43,.int .u8 45])]
def GP(R:Ro):Prop:=(∀w:World,(∀b o,R b=some o→w.heap[b]? =some o)→Gd w)∧GlobOK gl R
theorem gd(R:Ro)(w:World)(h:GP R)(hw:∀b o,R b=some o→w.heap[b]? =some o):Gd w:=h.1 w hw
theorem zxe(R:Ro)(h:GP R):GlobOK gl R:=h.2
theorem zn8:Stays GP:=fun R R' hs h=>⟨fun w hw=>h.1 w fun b o hb=>hw b o (hs b o hb),fun g=>zk hs _ _ (fun i hi=>by rw[ZD]at hi;cases hi) (h.2 g)⟩
theorem mixed:Tryz.prog.follows .mixedOrders=true:=Tryz.checked.mixed
theorem bas:Bas Tryz.prog GP gl:=⟨mixed,zxe,zn8⟩
def jx(vs:List AV)(h:Heap):Option (List UInt8×List UInt8):=match vs,h with
 |[.str q0,.str q1],[]=>some (q0,q1)
 |_,_=>none
theorem yB(vs:List AV)(h:Heap)(x:List UInt8×List UInt8)(hx:jx vs h=some x):vs=[.str x.1,.str x.2]∧h=[]:=by unfold jx at hx;split at hx<;>cases hx;exact⟨rfl,rfl⟩
def Y5(_N:Nat):Con:=Con6.c ⟨97,List UInt8×List UInt8,Bool,jx,fun x=>zdc x.1 x.2,fun _ r=>⟨.bool r,[]⟩⟩
theorem Jm(N:Nat):SoundC Tryz.prog GP (Y5 N):=zQ gd (fun x=>[.str x.1,.str x.2]) (fun x=>[.string (bs x.1),.string (bs x.2)]) (fun r=>.bool r) (by kernel_rfl) yB (fun _=>rfl) (fun _=>rfl) fun x r w hG h=>by cases h;exact (Tryz.strings_HasPrefix (bs x.1) (bs x.2) w).mono fun e w' ⟨h1,h2⟩=>⟨h1,.of_eq h2⟩
def Y7(_N:Nat):Con:=Con6.c ⟨169,List UInt8×List UInt8,List UInt8×Bool,jx,fun x=>zdf x.1 x.2,fun _ r=>⟨.tup [.str r.1,.bool r.2],[]⟩⟩
theorem Jo(N:Nat):SoundC Tryz.prog GP (Y7 N):=zQ gd (fun x=>[.str x.1,.str x.2]) (fun x=>[.string (bs x.1),.string (bs x.2)]) (fun r=>.tuple #[.string (bs r.1),.bool r.2]) (by kernel_rfl) yB (fun _=>rfl) (fun _=>rfl) fun x r w hG h=>by cases h;exact (Tryz.strings_CutPrefix (bs x.1) (bs x.2) w).mono fun e w' ⟨h1,h2⟩=>⟨h1,.of_eq h2⟩
def Y6(_N:Nat):Con:=Con6.c ⟨172,List UInt8×List UInt8,List UInt8×Bool,jx,fun x=>zde x.1 x.2,fun _ r=>⟨.tup [.str r.1,.bool r.2],[]⟩⟩
theorem Jn(N:Nat):SoundC Tryz.prog GP (Y6 N):=zQ gd (fun x=>[.str x.1,.str x.2]) (fun x=>[.string (bs x.1),.string (bs x.2)]) (fun r=>.tuple #[.string (bs r.1),.bool r.2]) (by kernel_rfl) yB (fun _=>rfl) (fun _=>rfl) fun x r w hG h=>by obtain⟨hc,h⟩:=zo h;cases h;exact (Tryz.strings_CutSuffix (bs x.1) (bs x.2) w (by rw[jc];exact Zj hc)).mono fun e w' ⟨h1,h2⟩=>⟨h1,.of_eq h2⟩
def Yp(_N:Nat):Con:=Con6.c ⟨102,List UInt8×List UInt8,List UInt8,jx,fun x=>zag x.1 x.2,fun _ r=>⟨.str r,[]⟩⟩
theorem ZV(N:Nat):SoundC Tryz.prog GP (Yp N):=zQ gd (fun x=>[.str x.1,.str x.2]) (fun x=>[.string (bs x.1),.string (bs x.2)]) (fun r=>.string (bs r)) (by kernel_rfl) yB (fun _=>rfl) (fun _=>rfl) fun x r w hG h=>by obtain⟨hc,h⟩:=zo h;cases h;exact (Tryz.strings_TrimSuffix (bs x.1) (bs x.2) w (by rw[jc];exact Zj hc)).mono fun e w' ⟨h1,h2⟩=>⟨h1,.of_eq h2⟩
def Yq(_N:Nat):Con:=Con6.c ⟨92,List UInt8×List UInt8,List UInt8,jx,fun x=>ziJ x.1 x.2,fun _ r=>⟨.str r,[]⟩⟩
theorem Vx(N:Nat):SoundC Tryz.prog GP (Yq N):=zQ gd (fun x=>[.str x.1,.str x.2]) (fun x=>[.string (bs x.1),.string (bs x.2)]) (fun r=>.string (bs r)) (by kernel_rfl) yB (fun _=>rfl) (fun _=>rfl) fun x r w hG h=>by cases h;exact (Tryz.strings_TrimPrefix (bs x.1) (bs x.2) w).mono fun e w' ⟨h1,h2⟩=>⟨h1,.of_eq h2⟩
def zd0(vs:List AV)(h:Heap):Option (List UInt8×Int):=match vs,h with
 |[.str q0,.int .u8 q1],[]=>some (q0,q1)
 |_,_=>none
theorem zvZ(vs:List AV)(h:Heap)(x:List UInt8×Int)(hx:zd0 vs h=some x):vs=[.str x.1,.int .u8 x.2]∧h=[]:=by unfold zd0 at hx;split at hx<;>cases hx;exact⟨rfl,rfl⟩
def Y3(_N:Nat):Con:=Con6.c ⟨189,List UInt8×Int,Int,zd0,fun x=>J5 x.1 x.2,fun _ r=>⟨.int .i64 r,[]⟩⟩
theorem qw(N:Nat):SoundC Tryz.prog GP (Y3 N):=zQ gd (fun x=>[.str x.1,.int .u8 x.2]) (fun x=>[.string (bs x.1),.int .u8 x.2]) (fun r=>.int .i64 r) (by kernel_rfl) zvZ (fun _=>rfl) (fun _=>rfl) fun x r w hG h=>by cases h;exact (Tryz.strings_IndexByte (bs x.1) x.2 w).mono fun e w' ⟨h1,h2⟩=>⟨h1,.of_eq h2⟩
def ziN(_N:Nat):Con:=Con6.c ⟨93,List UInt8×List UInt8,List UInt8×List UInt8×Bool,jx,fun x=>zxG x.1 x.2,fun _ r=>⟨.tup [.str r.1,.str r.2.1,.bool r.2.2],[]⟩⟩
theorem zdd(N:Nat):SoundC Tryz.prog GP (ziN N):=zQ gd (fun x=>[.str x.1,.str x.2]) (fun x=>[.string (bs x.1),.string (bs x.2)]) (fun r=>.tuple #[.string (bs r.1),.string (bs r.2.1),.bool r.2.2]) (by kernel_rfl) yB (fun _=>rfl) (fun _=>rfl) fun x r w hG h=>by obtain⟨hc,h⟩:=zo h;cases h;obtain⟨m,hm⟩:=hG.maxLen;exact (Tryz.strings_Cut (bs x.1) (bs x.2) m w (by rw[jc];exact Zj hc) hm).mono fun e w' ⟨h1,n,h2⟩=>⟨h1,h2▸Keeps.drewN _ _⟩
def zdg(_N:Nat):Con:=Con6.c ⟨111,List UInt8×List UInt8,Int,jx,fun x=>J7 x.1 x.2,fun _ r=>⟨.int .i64 r,[]⟩⟩
theorem y9(N:Nat):SoundC Tryz.prog GP (zdg N):=zQ gd (fun x=>[.str x.1,.str x.2]) (fun x=>[.string (bs x.1),.string (bs x.2)]) (fun r=>.int .i64 r) (by kernel_rfl) yB (fun _=>rfl) (fun _=>rfl) fun x r w hG h=>by
 obtain⟨s,p⟩:=x
 match p,h with
 |[c],h=>cases h;exact (Tryz.strings_Count_one (bs s) c w).mono fun e w' ⟨h1,h2⟩=>⟨h1,.of_eq h2⟩
def Xg(_N:Nat):Con:=Con6.c ⟨249,List UInt8×List UInt8,Bool,jx,fun x=>znn x.1 x.2,fun _ r=>⟨.bool r,[]⟩⟩
theorem zaH(N:Nat):SoundC Tryz.prog GP (Xg N):=zQ gd (fun x=>[.str x.1,.str x.2]) (fun x=>[.string (bs x.1),.string (bs x.2)]) (fun r=>.bool r) (by kernel_rfl) yB (fun _=>rfl) (fun _=>rfl) fun x r w hG h=>by
 obtain⟨s,p⟩:=x
 match p,h with
 |[c],h=>cases h;exact (Tryz.strings_Contains_one (bs s) c w).mono fun e w' ⟨h1,h2⟩=>⟨h1,.of_eq h2⟩
def Xf(_N:Nat):Con:=Con6.c ⟨87,List UInt8×List UInt8,List UInt8,jx,fun x=>js x.1 x.2,fun _ r=>⟨.str r,[]⟩⟩
theorem j4(N:Nat):SoundC Tryz.prog GP (Xf N):=zQ gd (fun x=>[.str x.1,.str x.2]) (fun x=>[.string (bs x.1),.string (bs x.2)]) (fun r=>.string (bs r)) (by kernel_rfl) yB (fun _=>rfl) (fun _=>rfl) fun x r w hG h=>by obtain⟨hc,h⟩:=zo h;obtain⟨hc,ha⟩:=XU hc;cases h;exact (Any.strings_TrimLeft_laid Tryz.lays161 (by kernel_rfl) (bs x.1) (bs x.2) w (by rw[jc];exact Zj hc) (Qw ha)).mono fun e w' ⟨h1,h2⟩=>⟨h1,.of_below h2⟩
def Y1(_N:Nat):Con:=Con6.c ⟨171,List UInt8×List UInt8,List UInt8,jx,fun x=>zdb x.1 x.2,fun _ r=>⟨.str r,[]⟩⟩
theorem Jk(N:Nat):SoundC Tryz.prog GP (Y1 N):=zQ gd (fun x=>[.str x.1,.str x.2]) (fun x=>[.string (bs x.1),.string (bs x.2)]) (fun r=>.string (bs r)) (by kernel_rfl) yB (fun _=>rfl) (fun _=>rfl) fun x r w hG h=>by obtain⟨hc,h⟩:=zo h;obtain⟨hc,ha⟩:=XU hc;obtain⟨hc2,ha⟩:=XU ha;cases h;exact (Any.strings_TrimRight_laid Tryz.lays162 (by kernel_rfl) (bs x.1) (bs x.2) w (by rw[jc];exact Zj hc) (by rw[jc];exact Zj hc2) (Qw ha)).mono fun e w' ⟨h1,h2⟩=>⟨h1,.of_below h2⟩
def zeX(_N:Nat):Con:=Con6.c ⟨73,List UInt8×List UInt8,List UInt8,jx,fun x=>Vy x.1 x.2,fun _ r=>⟨.str r,[]⟩⟩
theorem qR(N:Nat):SoundC Tryz.prog GP (zeX N):=zQ gd (fun x=>[.str x.1,.str x.2]) (fun x=>[.string (bs x.1),.string (bs x.2)]) (fun r=>.string (bs r)) (by kernel_rfl) yB (fun _=>rfl) (fun _=>rfl) fun x r w hG h=>by obtain⟨hc,h⟩:=zo h;obtain⟨hc,ha⟩:=XU hc;obtain⟨hc2,ha⟩:=XU ha;cases h;exact (Any.strings_Trim_laid Tryz.lays160 (by kernel_rfl) (bs x.1) (bs x.2) w (by rw[jc];exact Zj hc) (by rw[jc];exact Zj hc2) (Qw ha)).mono fun e w' ⟨h1,h2⟩=>⟨h1,.of_below h2⟩
def Y4(_N:Nat):Con:=Con6.c ⟨95,List UInt8×List UInt8,Bool,jx,fun x=>J6 x.1 x.2,fun _ r=>⟨.bool r,[]⟩⟩
theorem Jl(N:Nat):SoundC Tryz.prog GP (Y4 N):=zQ gd (fun x=>[.str x.1,.str x.2]) (fun x=>[.string (bs x.1),.string (bs x.2)]) (fun r=>.bool r) (by kernel_rfl) yB (fun _=>rfl) (fun _=>rfl) fun x r w hG h=>by obtain⟨hc,h⟩:=zo h;cases h;exact (Tryz.strings_HasSuffix (bs x.1) (bs x.2) w (by rw[jc];exact Zj hc)).mono fun e w' ⟨h1,h2⟩=>⟨h1,.of_eq h2⟩
def zdY(vs:List AV)(h:Heap):Option (List UInt8×Int):=match vs,h with
 |[.str q0,.int .i32 q1],[]=>some (q0,q1)
 |_,_=>none
theorem zvX(vs:List AV)(h:Heap)(x:List UInt8×Int)(hx:zdY vs h=some x):vs=[.str x.1,.int .i32 x.2]∧h=[]:=by unfold zdY at hx;split at hx<;>cases hx;exact⟨rfl,rfl⟩
def ZW(_N:Nat):Con:=Con6.c ⟨174,List UInt8×Int,Bool,zdY,fun x=>Xh x.1 x.2,fun _ r=>⟨.bool r,[]⟩⟩
theorem Zb(N:Nat):SoundC Tryz.prog GP (ZW N):=zQ gd (fun x=>[.str x.1,.int .i32 x.2]) (fun x=>[.string (bs x.1),.int .i32 x.2]) (fun r=>.bool r) (by kernel_rfl) zvX (fun _=>rfl) (fun _=>rfl) fun x r w hG h=>by obtain⟨hc,h⟩:=zo h;obtain⟨h1,h2⟩:=XU hc;cases h;exact (Tryz.strings_ContainsRune_ascii (bs x.1) x.2 w (Zj h1) (Zj h2)).mono fun e w' ⟨h1,h2⟩=>⟨h1,.of_eq h2⟩
def Jp(_N:Nat):Con:=Con6.c ⟨168,List UInt8×List UInt8,Bool,jx,fun x=>VB x.1 x.2,fun _ r=>⟨.bool r,[]⟩⟩
theorem ZC(N:Nat):SoundC Tryz.prog GP (Jp N):=zQ gd (fun x=>[.str x.1,.str x.2]) (fun x=>[.string (bs x.1),.string (bs x.2)]) (fun r=>.bool r) (by kernel_rfl) yB (fun _=>rfl) (fun _=>rfl) fun x r w hG h=>by obtain⟨hc,h⟩:=zo h;obtain⟨h1,hc⟩:=XU hc;obtain⟨h2,hc⟩:=XU hc;obtain⟨h3,h4⟩:=XU hc;cases h;exact (Tryz.strings_ContainsAny_laid (bs x.1) (bs x.2) w (by rw[jc];exact Zj h1) (by rw[jc];exact Zj h2) (Qw h3) (Qw h4)).mono fun e w' ⟨h1,h2⟩=>⟨h1,.of_below h2⟩
def zhO(vs:List AV)(h:Heap):Option (Int):=match vs,h with
 |[.int .i32 q0],[]=>some q0
 |_,_=>none
theorem zxs(vs:List AV)(h:Heap)(x:Int)(hx:zhO vs h=some x):vs=[.int .i32 x]∧h=[]:=by unfold zhO at hx;split at hx<;>cases hx;exact⟨rfl,rfl⟩
def Vz(_N:Nat):Con:=Con6.c ⟨191,Int,Int,zhO,fun x=>ziK x,fun _ r=>⟨.int .i64 r,[]⟩⟩
theorem Y2(N:Nat):SoundC Tryz.prog GP (Vz N):=zQ gd (fun x=>[.int .i32 x]) (fun x=>[.int .i32 x]) (fun r=>.int .i64 r) (by kernel_rfl) zxs (fun _=>rfl) (fun _=>rfl) fun x r w hG h=>by cases h;exact (Tryz.utf8_RuneLen x w).mono fun e w' ⟨h1,h2⟩=>⟨h1,.of_eq h2⟩
def zdZ(vs:List AV)(h:Heap):Option (List UInt8×Int):=match vs,h with
 |[.str q0,.int .i64 q1],[]=>some (q0,q1)
 |_,_=>none
theorem zvY(vs:List AV)(h:Heap)(x:List UInt8×Int)(hx:zdZ vs h=some x):vs=[.str x.1,.int .i64 x.2]∧h=[]:=by unfold zdZ at hx;split at hx<;>cases hx;exact⟨rfl,rfl⟩
def zah(_N:Nat):Con:=Con6.c ⟨62,List UInt8×Int,List UInt8,zdZ,fun x=>yb x.1 x.2,fun _ r=>⟨.str r,[]⟩⟩
theorem j6(N:Nat):SoundC Tryz.prog GP (zah N):=zQ gd (fun x=>[.str x.1,.int .i64 x.2]) (fun x=>[.string (bs x.1),.int .i64 x.2]) (fun r=>.string (bs r)) (by kernel_rfl) zvY (fun _=>rfl) (fun _=>rfl) fun x r w hG h=>by
 obtain⟨hc,h⟩:=zo h;obtain⟨h1,hc⟩:=XU hc;obtain⟨h2,h3⟩:=XU hc;have h1:=Zj h1;have h2:=Zj h2;have h3:=Zj h3;cases h;obtain⟨s,c⟩:=x;obtain⟨k,rfl⟩:∃k:Nat,c=k:=⟨c.toNat,by simp only at h1;omega⟩
 simp only[Int.toNat_natCast]at*
 exact (Tryz.strings_Repeat (bs s) k w (by omega) (by rw[jc];exact h3)).mono fun e w' ⟨h1,h2⟩=>⟨h1,.of_below h2⟩
def zhP(vs:List AV)(h:Heap):Option (Int):=match vs,h with
 |[.int .i64 q0],[]=>some q0
 |_,_=>none
theorem zxt(vs:List AV)(h:Heap)(x:Int)(hx:zhP vs h=some x):vs=[.int .i64 x]∧h=[]:=by unfold zhP at hx;split at hx<;>cases hx;exact⟨rfl,rfl⟩
def zeY(_N:Nat):Con:=Con6.c ⟨135,Int,List UInt8,zhP,fun x=>ziM x,fun _ r=>⟨.str r,[]⟩⟩
theorem zai(N:Nat):SoundC Tryz.prog GP (zeY N):=zQ gd (fun x=>[.int .i64 x]) (fun x=>[.int .i64 x]) (fun r=>.string (bs r)) (by kernel_rfl) zxt (fun _=>rfl) (fun _=>rfl) fun x r w hG h=>by obtain⟨hc,h⟩:=zo h;obtain⟨h1,h2⟩:=XU hc;cases h;exact (Tryz.strconv_Itoa x (Zj h1) (Zj h2) w hG.pow).mono fun e w' ⟨h1,k,os,h2⟩=>⟨h1,h2▸(Keeps.drewN _ _).trans (Keeps.grow _ _)⟩
def zhN(vs:List AV)(h:Heap):Option (List UInt8):=match vs,h with
 |[.str q0],[]=>some q0
 |_,_=>none
theorem zxr(vs:List AV)(h:Heap)(x:List UInt8)(hx:zhN vs h=some x):vs=[.str x]∧h=[]:=by unfold zhN at hx;split at hx<;>cases hx;exact⟨rfl,rfl⟩
def zeZ(_N:Nat):Con:=Con6.c ⟨219,List UInt8,Int,zhN,fun x=>zwb x,fun _ r=>⟨.tup [.int .i64 r,.nili],[]⟩⟩
theorem zak(N:Nat):SoundC Tryz.prog GP (zeZ N):=zQ gd (fun x=>[.str x]) (fun x=>[.string (bs x)]) (fun r=>.tuple #[.int .i64 r,.nilIface]) (by kernel_rfl) zxr (fun _=>rfl) (fun _=>rfl) fun x r w hG h=>by obtain⟨hc,h⟩:=zo h;exact (Tryz.strconv_Atoi (bs x) r (by rw[jc];exact Zj hc) h w).mono fun e w' ⟨h1,t,h2⟩=>⟨h1,by subst h2;exact .of_below (Lib.bytesWorld_below _ _ _)⟩
end Go.Proofs.C06
end
section
set_option maxHeartbeats 4000000
set_option maxRecDepth 100000
namespace Go.Proofs.C06
open Go Go.RowKit Go.Vc Go.Am
theorem zvQ(b:Nat)(w:World)(h0:w.cell? ⟨b,0,none⟩=some (.pointer (some ⟨b,0,none⟩))):
  Calls Tryz.prog 141 #[.pointer (some ⟨b,0,none⟩)] w fun e w'=>e=.returned (.tuple #[])∧w'=w:=by
 have hsz:∃j,Tryz.prog.info? 165=some j:=⟨_,rfl⟩
 obtain⟨j,hj⟩:=hsz
 go_enter Tryz.func141,Tryz.ntmps141
 go_wp2
 rw[Lib.run_neq_ptr_same w _ (by kernel_rfl) hj]
 go_wp2
 go_end0
 exact⟨rfl,rfl⟩
theorem zr1(b:Nat)(w:World)(h0:w.cell? ⟨b,0,none⟩=some (.pointer none))(hsh:w.shape? b=some (165,2))(hfz:w.frozen? ⟨b,0,none⟩=false):
  Calls Tryz.prog 141 #[.pointer (some ⟨b,0,none⟩)] w fun e w'=>e=.returned (.tuple #[])∧w'=w.setCell ⟨b,0,none⟩ (.pointer (some ⟨b,0,none⟩)):=by
 have hsz:∃j,Tryz.prog.info? 165=some j∧j.size=2:=⟨_,rfl,by kernel_rfl⟩
 obtain⟨j,hj,hjs⟩:=hsz;have t55:Tryz.prog.underlying 163=some (.pointer 165):=by kernel_rfl
 have t109:Tryz.prog.underlying 278=some (.unsafePointer):=by kernel_rfl
 go_enter Tryz.func141,Tryz.ntmps141
 go_wp2
 rw[Lib.run_to_unsafe w ⟨b,0,none⟩ t55 t109 hj (by rw[hjs];decide) hsh (Nat.zero_lt_succ 1)];simp only[Result.andThen];rw[Oper.upon_value]
 go_wp2
 rw[run_callFunc_extern Tryz.func202 (by kernel_rfl) (by kernel_rfl) (by kernel_rfl) (e:=Extern.AbiNoEscape.same) (by kernel_rfl)];rw[Lib.run_noEscape];simp only[Result.andThen];rw[Oper.upon_value]
 go_wp2
 rw[Lib.run_from_unsafe w ⟨b,0,none⟩ t109 t55 hj hsh (by kernel_rfl)];simp only[Result.andThen];rw[Oper.upon_value]
 go_wp2
 go_end0
 exact⟨rfl,rfl⟩
def XQ(vs:List AV)(h:Heap):Option (AV×Heap):=match vs,h with
 |[.ptr 0 0],some (.cells 165 [.ptr 0 0,v])::h=>some (v,h)
 |_,_=>none
def Qt(vs:List AV)(h:Heap):Option (AV×Heap):=match vs,h with
 |[.ptr 0 0],some (.cells 165 [.nilp,v])::h=>some (v,h)
 |_,_=>none
def zdK(_N:Nat):Con:=Con6.c ⟨141,AV×Heap,Unit,XQ,fun _=>some (),fun x _=>⟨.tup [],some (.cells 165 [.ptr 0 0,x.1])::x.2⟩⟩
def zav(_N:Nat):Con:=Con6.c ⟨141,AV×Heap,Unit,Qt,fun _=>some (),fun x _=>⟨.tup [],some (.cells 165 [.ptr 0 0,x.1])::x.2⟩⟩
theorem qh(N:Nat):SoundC Tryz.prog GP (zdK N):=by
 intro args h x r hd hs;have hd:XQ args h=some x:=hd;unfold XQ at hd;split at hd
 ·rename_i v hp hq;cases hd;refine⟨jt (by kernel_rfl),fun R G w vs hGP W hargs=>?_⟩;have F:=JC W;obtain⟨r0,hr,hlk,hv0,hfp,cs,hcs,hrel⟩:=F.look_live (i:=0) rfl;obtain⟨u,us,rfl,⟨f,hf,_,rfl⟩,hus⟩:=hargs;have hus:us=[]:=hus;subst hus;rw[hlk]at hf;cases hf;obtain⟨c0,cr,rfl,⟨f,hf,_,rfl⟩,_⟩:=hrel;rw[hlk]at hf;cases hf;refine(zvQ r0.b w (by simp[World.cell?,hcs])).mono fun e w' ⟨he,hw⟩=>?_
  subst hw;exact⟨_,R,G,he,W,F.since,⟨[],rfl,rfl⟩⟩
 ·cases hd
theorem qM(N:Nat):SoundC Tryz.prog GP (zav N):=by
 intro args h x r hd hs;have hd:Qt args h=some x:=hd;unfold Qt at hd;split at hd
 ·rename_i v hp hq;cases hd;refine⟨jt (by kernel_rfl),fun R G w vs hGP W hargs=>?_⟩;have F:=JC W;obtain⟨r0,hr,hlk,hv0,hfp,cs,hcs,hrel⟩:=F.look_live (i:=0) rfl;obtain⟨u,us,rfl,⟨f,hf,_,rfl⟩,hus⟩:=hargs;have hus:us=[]:=hus;subst hus;rw[hlk]at hf;cases hf;obtain⟨c0,cr,rfl,h0,c1,cr1,rfl,h1,hcr⟩:=hrel;have hcr:cr1=[]:=hcr;subst hcr;have h0:c0=.pointer none:=h0;subst h0;refine(zr1 r0.b w (by simp[World.cell?,hcs]) (by simp[World.shape?,hcs]) (by simp[World.frozen?,hcs])).mono fun e w' ⟨he,hw⟩=>?_
  subst hw;obtain⟨s1,s2⟩:=YH (o:=0) (v:=.pointer (some ⟨r0.b,0,none⟩)) hcs;obtain⟨F',_⟩:=F.write (i:=0) (ao:=.cells 165 [.ptr 0 0,v]) rfl hr rfl hfp s2 (fun L' hL=>⟨hv0,hfp,_,s1,_,_,rfl,⟨_,hL _ _ hlk,hv0,rfl⟩,_,_,rfl,zk (fun _ _ h=>h) _ _ (fun j _ f hf=>hL j f hf) h1,rfl⟩);exact⟨_,R,G,he,F'.wrel,F'.since,⟨[],rfl,rfl⟩⟩
 ·cases hd
end Go.Proofs.C06
end
section
set_option maxHeartbeats 2000000
set_option maxRecDepth 100000
namespace Go.Proofs.C06
open Go Go.RowKit Go.Vc Go.Am
theorem zsk(b g cap:Nat)(p:Value)(cur:Array Value)(fr:Nat×Nat)(l:List UInt8)(w:World)(hl0:l≠[])(hbk:w.heap[b]? =some (.cells #[p,.slice (some ⟨g,0,none⟩) l.length cap] 165 (0,0)))
  (hg:w.heap[g]? =some (.cells cur 5 fr)) (hn:l.length≤cap) (hcs:l.length≤cur.size) (hsz:l.length≤9223372036854775807) (hcell:∀j x,l[j]? =some x→w.cell? ((⟨g,0,none⟩:Addr).add j)=some (.int .u8 x.toNat)):
  Calls Tryz.prog 91 #[.pointer (some ⟨b,0,none⟩)] w fun e w'=>e=.returned (.string ⟨l.toArray⟩)∧w'=w.drew.freeze ⟨g,0,none⟩ l.length:=by
 have hlen:l.length≠0:=by simpa using hl0
 have mixed:=Tryz.checked.mixed;have c1:w.drew.cell? ⟨b,1,none⟩=some (.slice (some ⟨g,0,none⟩) l.length cap):=by have:w.drew.heap[b]? =some (.cells #[p,.slice (some ⟨g,0,none⟩) l.length cap] 165 (0,0)):=hbk;rw[Lib.cell_of_heap this];rfl
 have hSD:(Builtin.unsafeSliceData_ #[38] 233 #[.slice (some ⟨g,0,none⟩) l.length cap]).run Tryz.prog w.drew=.ok (.pointer (some ⟨g,0,none⟩)) w.drew:=
  Lib.run_unsafeSliceData_row _ _ _ _ _ _ (by omega)
 have hUS:(Builtin.unsafeString_ #[233,3] 9 #[.pointer (some ⟨g,0,none⟩),.int .i64 l.length]).run Tryz.prog w.drew=.ok (.string ⟨l.toArray⟩) (w.drew.freeze ⟨g,0,none⟩ l.length):=by refine Lib.run_unsafeString_row w.drew 233 3 9 5 (by kernel_rfl) (by kernel_rfl) g cur.size (by have hg':w.drew.heap[g]? =some (.cells cur 5 fr):=hg;simp[World.shape?,hg']) l hl0 hcs hsz hcell
 go_enter Tryz.func91,Tryz.ntmps91
 go_wp2
 go_region_o
 all_goals (go_wp2;go_ret;exact⟨rfl,rfl⟩)
theorem zlq(b:Nat)(p:Value)(w:World)(hbk:w.heap[b]? =some (.cells #[p,.slice none 0 0] 165 (0,0))):
  Calls Tryz.prog 91 #[.pointer (some ⟨b,0,none⟩)] w fun e w'=>e=.returned (.string ⟨#[]⟩)∧w'=w.drew:=by
 have mixed:=Tryz.checked.mixed;have hUS:(Builtin.unsafeString_ #[233,3] 9 #[.pointer none,.int .i64 0]).run Tryz.prog w.drew=.ok (.string .empty) w.drew:=Lib.run_unsafeString_none w.drew _ _ _ _;have c1:w.drew.cell? ⟨b,1,none⟩=some (.slice none 0 0):=by have:w.drew.heap[b]? =some (.cells #[p,.slice none 0 0] 165 (0,0)):=hbk;rw[Lib.cell_of_heap this];rfl
 have hSD:(Builtin.unsafeSliceData_ #[38] 233 #[.slice none 0 0]).run Tryz.prog w.drew=.ok (.pointer none) w.drew:=rfl
 go_enter Tryz.func91,Tryz.ntmps91
 go_wp2
 go_region_o
 all_goals (go_wp2;go_ret;exact⟨rfl,rfl⟩)
theorem zn7(b g cap:Nat)(p:Value)(w:World)(hc0:cap≠0)(hbk:w.heap[b]? =some (.cells #[p,.slice (some ⟨g,0,none⟩) 0 cap] 165 (0,0))):
  Calls Tryz.prog 91 #[.pointer (some ⟨b,0,none⟩)] w fun e w'=>e=.returned (.string ⟨#[]⟩)∧w'=w.drew:=by
 have mixed:=Tryz.checked.mixed;have hUS:(Builtin.unsafeString_ #[233,3] 9 #[.pointer (some ⟨g,0,none⟩),.int .i64 0]).run Tryz.prog w.drew=.ok (.string .empty) w.drew:=Lib.run_unsafeString_none w.drew _ _ _ _;have c1:w.drew.cell? ⟨b,1,none⟩=some (.slice (some ⟨g,0,none⟩) 0 cap):=by have:w.drew.heap[b]? =some (.cells #[p,.slice (some ⟨g,0,none⟩) 0 cap] 165 (0,0)):=hbk;rw[Lib.cell_of_heap this];rfl
 have hSD:(Builtin.unsafeSliceData_ #[38] 233 #[.slice (some ⟨g,0,none⟩) 0 cap]).run Tryz.prog w.drew=.ok (.pointer (some ⟨g,0,none⟩)) w.drew:=
  Lib.run_unsafeSliceData_row _ _ _ _ _ _ hc0
 clear hc0
 go_enter Tryz.func91,Tryz.ntmps91
 go_wp2
 go_region_o
 all_goals (go_wp2;go_ret;exact⟨rfl,rfl⟩)
theorem zjK(b g:Nat)(p:Value)(cur:Array Value)(fr:Nat×Nat)(w:World)(hbk:w.heap[b]? =some (.cells #[p,.slice (some ⟨g,0,none⟩) 0 0] 165 (0,0)))(hg:w.heap[g]? =some (.cells cur 5 fr)):
  Calls Tryz.prog 91 #[.pointer (some ⟨b,0,none⟩)] w fun e w'=>e=.returned (.string ⟨#[]⟩)∧Vc.Keeps [] w w':=by
 have mixed:=Tryz.checked.mixed;have hUS:∀W q,(Builtin.unsafeString_ #[233,3] 9 #[.pointer q,.int .i64 0]).run Tryz.prog W=.ok (.string .empty) W:=fun W q=>Lib.run_unsafeString_none W _ _ _ _
 have hlt:b<w.heap.size:=(Array.getElem?_eq_some_iff.1 hbk).1;have c1:w.drew.cell? ⟨b,1,none⟩=some (.slice (some ⟨g,0,none⟩) 0 0):=by have:w.drew.heap[b]? =some (.cells #[p,.slice (some ⟨g,0,none⟩) 0 0] 165 (0,0)):=hbk;rw[Lib.cell_of_heap this];rfl
 have hSD:(Builtin.unsafeSliceData_ #[38] 233 #[.slice (some ⟨g,0,none⟩) 0 0]).run Tryz.prog w.drew=.ok (.pointer (some ⟨w.drew.heap.size,0,none⟩)) (w.drew.alloc (.view ⟨g,0,none⟩ 5)):=
  Lib.run_unsafeSliceData_zero w.drew _ _ 5 (by kernel_rfl) ⟨g,0,none⟩ 0 (5,cur.size) (by have hg':w.drew.heap[g]? =some (.cells cur 5 fr):=hg;simp[World.shape?,hg'])
 have c2:(w.drew.alloc (.view ⟨g,0,none⟩ 5)).cell? ⟨b,1,none⟩=some (.slice (some ⟨g,0,none⟩) 0 0):=by have:(w.drew.alloc (.view ⟨g,0,none⟩ 5)).heap[b]? =_:=(Lib.alloc_old w.drew _ b hlt).trans hbk;rw[Lib.cell_of_heap this];rfl
 have c3:(w.alloc (.view ⟨g,0,none⟩ 5)).drew.cell? ⟨b,1,none⟩=some (.slice (some ⟨g,0,none⟩) 0 0):=c2;have c0:w.cell? ⟨b,1,none⟩=some (.slice (some ⟨g,0,none⟩) 0 0):=c1
 go_enter Tryz.func91,Tryz.ntmps91
 go_wp2
 go_region_o
 all_goals (go_wp2;go_ret;exact⟨rfl,.of_below ((Below.drew (Below.refl _ w)).alloc (Nat.le_refl _) _)⟩)
theorem zxx{R:Ro}{G:List Res}{w w':World}{v:AV}{l:List UInt8}{r1:Res}(W:WRel R G [some (.cells 165 [.ptr 0 0,v]),some (.bytes 5 l)] w)(hr1:G[1]? =some r1)(k:Keeps r1.fp w w'):
  WRel R G [some (.cells 165 [.ptr 0 0,.undef]),none] w'∧Since ⟨R,Am.look G [some (.cells 165 [.ptr 0 0,v]),some (.bytes 5 l)],fpsAll G [some (.cells 165 [.ptr 0 0,v]),some (.bytes 5 l)],w,2⟩ R G [some (.cells 165 [.ptr 0 0,.undef]),none] w':=by
 have F:=JC W;obtain⟨r0,hr0,hlk0,hv0,hfp0,cs,hcs,hrel⟩:=F.look_live (i:=0) rfl;have two:∀{h:Heap}{i:Nat},h.length=2→i∉[0,1]→¬live h i:=fun hl hi hlv=>by have:=jh hlv;simp at hi;omega
 have dead1:¬live [some (.cells 165 [.ptr 0 0,.undef]),none] 1:=fun⟨o,ho⟩=>by simp[hget]at ho
 refine yx (G':=G) (h':=[some (.cells 165 [.ptr 0 0,.undef]),none]) (A:=[0,1]) (Fr:=fun _=>False) F.wrel F.since k
  (fun b hb=>.inr ⟨1,r1,by simp,⟨_,rfl⟩,hr1,hb⟩) (fun _ h=>h.elim) (by simpa using W.len) (by simp) (fun i hi hl=>(two rfl hi hl).elim)
  (fun i o hi ho=>(two rfl hi ⟨o,ho⟩).elim) (fun _ _ h=>h) (fun b o h1 h2=>by rw[h1]at h2;cases h2)
  (fun i o r hi ho hr=>?_) (fun i j ri rj hij hi hj hli hlj=>?_) (fun i hi hA hl=>?_)
 ·rcases List.mem_cons.1 hi with rfl|hi
  ·have ho:some (AO.cells 165 [.ptr 0 0,.undef])=some o:=ho;cases ho;rw[hr0]at hr;cases hr;obtain⟨c0,cr,rfl,⟨f,hf,hfv,rfl⟩,c1,cr1,rfl,h1,hcr⟩:=hrel;have hcr:cr1=[]:=hcr;subst hcr;rw[hlk0]at hf;cases hf;refine⟨⟨hv0,hfp0,[.pointer (some ⟨r0.b,0,none⟩),c1],?_,_,_,rfl,⟨_,zW (o:=.cells 165 [.ptr 0 0,.undef]) rfl hr0,hv0,rfl⟩,_,_,rfl,trivial,rfl⟩,fun b hb=>⟨W.sepR 0 r0 ⟨_,rfl⟩ hr0 b hb,.inr (.inl ⟨0,r0,by simp,⟨_,rfl⟩,hr0,hb⟩)⟩⟩;rw[k.block r0.b (zL hcs) (fun hm=>W.sep 0 1 r0 r1 (by simp) ⟨_,rfl⟩ ⟨_,rfl⟩ hr0 hr1 r0.b (by rw[hfp0];simp) hm)];exact hcs
  ·have hi:i=1:=by simpa using hi
   subst hi;exact (dead1 ⟨o,ho⟩).elim
 ·have z:∀x,x∈[0,1]→live [some (.cells 165 [.ptr 0 0,.undef]),none] x→x=0:=by
   intro x hx hl;rcases List.mem_cons.1 hx with rfl|hx
   ·rfl
   ·have hx:x=1:=by simpa using hx
    subst hx;exact (dead1 hl).elim
  exact (hij ((z i hi hli).trans (z j hj hlj).symm)).elim
 ·rcases List.mem_cons.1 hA with rfl|hA
  ·show Am.look G _ 0=Am.look G _ 0;rw[zW (o:=.cells 165 [.ptr 0 0,.undef]) rfl hr0,zW (o:=.cells 165 [.ptr 0 0,v]) rfl hr0];rfl
  ·have hA:i=1:=by simpa using hA
   subst hA;exact (dead1 hl).elim
theorem zsl{b:Nat}{p V:Value}{l:List UInt8}{r:Res}{w:World}(hbk:w.heap[b]? =some (.cells #[p,V] 165 (0,0)))(hrow:RowAt w r 5 1 l.length (fun cs=>cs=l.map u8V))(hV:V=ye r l.length)(hc:r.cap≤maxLen∨l.length≤maxLen):
  Calls Tryz.prog 91 #[.pointer (some ⟨b,0,none⟩)] w fun e w'=>e=.returned (.string (bs l))∧Keeps r.fp w w':=by
 subst hV;have hlm:l.length≤9223372036854775807:=by
  rcases hrow with⟨_,h0,_⟩|⟨_,_,hle,_⟩
  ·omega
  ·rcases hc with hc|hc
   ·exact Nat.le_trans hle hc
   ·exact hc
 rcases hrow with⟨g1,g2,g3,g4⟩|⟨g1,g2,g3,cs,tl,fr,g4,g5,g6,g7,g8⟩
 ·have hl:l=[]:=List.length_eq_zero_iff.1 g2;subst hl;rw[show ye r ([]:List UInt8).length=.slice none 0 0 by simp[ye,g1]]at hbk;exact (zlq b p w hbk).mono fun e w' ⟨he,hw⟩=>⟨he,by subst hw;exact Keeps.drawn w _⟩
 ·rw[show ye r l.length=.slice (some ⟨r.b,0,none⟩) l.length r.cap by simp[ye,g1]]at hbk;rw[g2];have hd:Keeps [r.b] w w.drew:=Keeps.drawn w _;by_cases hl:l=[]
  ·subst hl;by_cases hcap:r.cap=0
   ·rw[hcap]at hbk;exact (zjK b r.b p _ fr w hbk g4).mono fun e w' ⟨he,hw⟩=>⟨he,hw.wide⟩
   ·exact (zn7 b r.b r.cap p w hcap hbk).mono fun e w' ⟨he,hw⟩=>⟨he,by subst hw;exact hd⟩
  ·have hg6:cs.length=l.length:=by rw[g5];simp
   refine(zsk b r.b r.cap p _ fr l w hl hbk g4 g3 (by simp;omega) hlm (fun j x hj=>?_)).mono fun e w' ⟨he,hw⟩=>⟨he,?_⟩
   ·rw[JD,Nat.zero_add];have hjl:j<l.length:=(List.getElem?_eq_some_iff.1 hj).1;simp only[World.cell?,g4];have:(cs++tl).toArray[j]? =some (u8V x):=by simp only[List.getElem?_toArray];rw[List.getElem?_append_left (by omega),g5,List.getElem?_map,hj];rfl
    simpa[u8V]using this
   ·subst hw;refine hd.trans ⟨by unfold World.freeze;split<;>rfl,by unfold World.freeze;split<;>rfl,by unfold World.freeze;split<;>rfl,by unfold World.freeze;split<;>simp,fun k hk hne=>?_⟩;have hne:k≠r.b:=by simpa using hne
    unfold World.freeze;split
    ·rfl
    ·simp[Array.getElem?_modify,Ne.symm hne]
def XJ(l:List UInt8):Bool:=decide (l.length≤9223372036854775807)
def zdQ(vs:List AV)(h:Heap):Option (Bool×List UInt8):=match vs,h with
 |[.ptr 0 0],[some (.cells 165 [.ptr 0 0,.rw 1]),some (.bytes 5 l)]=>some (false,l)
 |[.ptr 0 0],[some (.cells 165 [.ptr 0 0,.rwp 1]),some (.bytes 5 l)]=>some (true,l)
 |_,_=>none
def zjo(_N:Nat):Con:=Con6.c ⟨91,Bool×List UInt8,List UInt8,zdQ,fun x=>chk (XJ x.2) (some x.2),fun _ l=>⟨.str l,[some (.cells 165 [.ptr 0 0,.undef]),none]⟩⟩
theorem Yk(N:Nat):SoundC Tryz.prog GP (zjo N):=by
 intro args h x r hd hs;have hd:zdQ args h=some x:=hd;have hs:chk (XJ x.2) (some x.2)=some r:=hs;obtain⟨hm,hs⟩:=zo hs;cases hs;have hm:=of_decide_eq_true hm;have key:∀{v:AV}{l:List UInt8},l.length≤9223372036854775807→(∀(L:Lk)(R:Ro)(r1:Res)(V:Value),L 1=some ⟨r1.b,r1.virt,r1.cap,l.length⟩→Rel L R v V→V=ye r1 l.length)→
   ∀R G w vs,GP R→WRel R G [some (.cells 165 [.ptr 0 0,v]),some (.bytes 5 l)] w→RelL (Am.look G [some (.cells 165 [.ptr 0 0,v]),some (.bytes 5 l)]) R [.ptr 0 0] vs→
   Calls Tryz.prog 91 vs.toArray w fun e w'=>∃V R' G',e=.returned V∧WRel R' G' [some (.cells 165 [.ptr 0 0,.undef]),none] w'∧
   Since ⟨R,Am.look G [some (.cells 165 [.ptr 0 0,v]),some (.bytes 5 l)],fpsAll G [some (.cells 165 [.ptr 0 0,v]),some (.bytes 5 l)],w,2⟩ R' G' [some (.cells 165 [.ptr 0 0,.undef]),none] w'∧Rel (Am.look G' [some (.cells 165 [.ptr 0 0,.undef]),none]) R' (.str l) V:=by
  intro v l hlm hv R G w vs hGP W hargs;have F:=JC W;obtain⟨r0,hr0,hlk0,hv0,hfp0,cs,hcs,hrel⟩:=F.look_live (i:=0) rfl;obtain⟨r1,hr1,hlk1,hrow⟩:=F.look_live (i:=1) rfl;obtain⟨u,us,rfl,⟨f,hf,_,rfl⟩,hus⟩:=hargs;have hus:us=[]:=hus;subst hus;rw[hlk0]at hf;cases hf;obtain⟨c0,cr,rfl,h0,c1,cr1,rfl,h1,hcr⟩:=hrel;have hcr:cr1=[]:=hcr;subst hcr;have hV:=hv _ _ r1 _ hlk1 h1;simp only[ObjRel]at hrow;refine(zsl hcs hrow hV (.inr hlm)).mono fun e w' ⟨he,hk⟩=>?_
  obtain⟨g1,g2⟩:=zxx W hr1 hk;exact⟨_,R,G,he,g1,g2,rfl⟩
 unfold zdQ at hd;split at hd
 ·cases hd;refine⟨jt (by kernel_rfl),key hm fun L R r1 V hL hV=>?_⟩;obtain⟨f,hf,h2,h3⟩:=hV;rw[hL]at hf;cases hf;unfold ye;cases hv:r1.virt with
  |true=>simp only[if_true];exact (h2 hv).2
  |false=>simp only[Bool.false_eq_true,if_false];exact h3 hv
 ·cases hd;refine⟨jt (by kernel_rfl),key hm fun L R r1 V hL hV=>?_⟩;obtain⟨f,hf,h2,_,h3⟩:=hV;rw[hL]at hf;cases hf;unfold ye;rw[if_neg (by simpa using h2)];exact h3
 ·cases hd
def W3(vs:List AV)(h:Heap):Option Unit:=match vs,h with
 |[.ptr 0 0],[some (.cells 165 [.nilp,.nils])]=>some ()
 |_,_=>none
def zfl(_N:Nat):Con:=Con6.c ⟨91,Unit,Unit,W3,fun _=>some (),fun _ _=>⟨.str [],[some (.cells 165 [.nilp,.nils])]⟩⟩
theorem Qv(N:Nat):SoundC Tryz.prog GP (zfl N):=by
 intro args h x r hd hs;have hd:W3 args h=some x:=hd;unfold W3 at hd;split at hd
 ·cases hd;refine⟨jt (by kernel_rfl),fun R G w vs hGP W hargs=>?_⟩;have F:=JC W;obtain⟨r0,hr0,hlk0,hv0,hfp0,cs,hcs,hrel⟩:=F.look_live (i:=0) rfl;obtain⟨u,us,rfl,⟨f,hf,_,rfl⟩,hus⟩:=hargs;have hus:us=[]:=hus;subst hus;rw[hlk0]at hf;cases hf;obtain⟨c0,cr,rfl,h0,c1,cr1,rfl,h1,hcr⟩:=hrel;have hcr:cr1=[]:=hcr;subst hcr;have h1:c1=.slice none 0 0:=h1;subst h1;refine(zlq r0.b c0 w hcs).mono fun e w' ⟨he,hw⟩=>?_
  subst hw;have F':=F.keep (Keeps.drawn w (w.drew).drawn:Keeps [] w w.drew);exact⟨_,R,G,he,F'.wrel,F'.since,rfl⟩
 ·cases hd
end Go.Proofs.C06
end
section
set_option maxHeartbeats 4000000
set_option maxRecDepth 100000
namespace Go.Proofs.C06
open Go Go.RowKit Go.Vc Go.Am
def zx2(b n:Nat)(w:World)(e:Ending)(w':World):Prop:=e=.returned (.tuple #[])∧Keeps [b] w w'∧∃g cap cs,w.heap.size≤g∧n≤cap∧cs.size=cap∧w'.heap[b]? =some (.cells #[.pointer (some ⟨b,0,none⟩),.slice (some ⟨g,0,none⟩) 0 cap] 165 (0,0))∧w'.heap[g]? =some (.cells cs 5 (0,0))
theorem zvy{b n:Nat}{w:World}{cs:Array Value}(hbk:w.heap[b]? =some (.cells #[.pointer (some ⟨b,0,none⟩),.slice none 0 0] 165 (0,0)))(hle:n≤cs.size):
  zx2 b n w (.returned (.tuple #[])) ((w.setCell ⟨b,1,none⟩ (.slice (some ⟨w.heap.size,0,none⟩) 0 cs.size)).alloc (.cells cs 5)).drew.drew.drew:=by
 have hlt:b<w.heap.size:=zL hbk;obtain⟨s1,s2⟩:=YH (o:=1) (v:=.slice (some ⟨w.heap.size,0,none⟩) 0 cs.size) (cs:=[.pointer (some ⟨b,0,none⟩),.slice none 0 0]) hbk;have hz:(w.setCell ⟨b,1,none⟩ (.slice (some ⟨w.heap.size,0,none⟩) 0 cs.size)).heap.size=w.heap.size:=by simp[World.setCell]
 generalize w.setCell ⟨b,1,none⟩ (.slice (some ⟨w.heap.size,0,none⟩) 0 cs.size)=W at s1 s2 hz;have kd:Keeps [b] W (W.alloc (.cells cs 5)).drew.drew.drew:=(Keeps.of_below (((((Below.refl _ W).alloc (Nat.le_refl _) _).drew).drew).drew)).mono (by simp);refine⟨rfl,s2.trans kd,w.heap.size,cs.size,cs,Nat.le_refl _,hle,rfl,?_,?_⟩
 ·exact (Lib.alloc_old W _ b (by omega)).trans s1
 ·rw[←hz];exact heap_alloc_new W _
theorem zrr(b n:Nat)(w:World)(hbk:w.heap[b]? =some (.cells #[.pointer (some ⟨b,0,none⟩),.slice none 0 0] 165 (0,0)))(hn:n≤281474976710656):
  Calls Tryz.prog 142 #[.pointer (some ⟨b,0,none⟩),.int .i64 n] w (zx2 b n w):=by
 have mixed:=Tryz.checked.mixed;have t33:Tryz.prog.underlying 38=some (.slice 5):=by kernel_rfl
 obtain⟨cs,hrun,hle,hmax⟩:=Lib.run_makeNoZero (P:=Tryz.prog) w.drew #[3] 38 5 t33 n hn;have hw:IntKind.i64.wrap (IntKind.i64.wrap 0+(n:Int))=n:=by rw[IntKind.wrap_i64,IntKind.wrap_i64];omega
 have hcall:(callFunc 190 #[.int .i64 (IntKind.i64.wrap (IntKind.i64.wrap 0+(n:Int)))]).run Tryz.prog w.drew=.ok (.value (.slice (some ⟨w.drew.heap.size,0,none⟩) n cs.size)) (w.drew.drew.drew.alloc (.cells cs 5)):=by rw[hw,run_callFunc_extern Tryz.func190 (by kernel_rfl) (by kernel_rfl) (by kernel_rfl) (e:=Extern.BytealgMakeNoZero.makeNoZero #[3] #[38]) (by kernel_rfl),hrun];rfl
 have hlt:b<w.heap.size:=zL hbk;have c1:w.drew.cell? ⟨b,1,none⟩=some (.slice none 0 0):=by have:w.drew.heap[b]? =_:=hbk;rw[Lib.cell_of_heap this];rfl
 have hb2:(w.alloc (.cells cs 5)).heap[b]? =some (.cells #[.pointer (some ⟨b,0,none⟩),.slice none 0 0] 165 (0,0)):=(Lib.alloc_old w _ b hlt).trans hbk;have c2:(w.alloc (.cells cs 5)).cell? ⟨b,1,none⟩=some (.slice none 0 0):=by rw[Lib.cell_of_heap hb2];rfl
 have f2:(w.alloc (.cells cs 5)).frozen? ⟨b,1,none⟩=false:=Lib.frozen_of_heap hb2 1;have hsz:∃j,Tryz.prog.info? 5=some j∧j.size=1:=⟨_,rfl,by kernel_rfl⟩
 obtain⟨j,hj,hjs⟩:=hsz;have hcopy:∀W:World,(Builtin.copy_ #[38,38] 3 #[.slice (some ⟨w.heap.size,0,none⟩) 0 cs.size,.slice none 0 0]).run Tryz.prog W=.ok (goInt 0) W:=
  fun W=>run_copy_none W 38 38 3 5 _ _ 0 cs.size 0 0 t33 (by kernel_rfl) rfl
 have hfin:=zvy (w:=w) hbk hle;clear hw hj hjs
 go_enter Tryz.func142,Tryz.ntmps142
 go_wp2
 go_region_o
 all_goals (go_wp2;go_end0;exact hfin)
end Go.Proofs.C06
end
section
set_option maxHeartbeats 4000000
set_option maxRecDepth 100000
namespace Go.Proofs.C06
open Go Go.RowKit Go.Vc Go.Am
def W4(vs:List AV)(h:Heap):Option Int:=match vs,h with
 |[.ptr 0 0,.int .i64 n],[some (.cells 165 [.ptr 0 0,.nils])]=>some n
 |_,_=>none
def zcN(n:Int):Bool:=match n with
 |.ofNat m=>Nat.ble 1 m&&Nat.ble m 281474976710656
 |_=>false
theorem zj2{n:Int}(h:zcN n=true):1≤n∧n≤281474976710656:=by
 unfold zcN at h;split at h
 ·simp only[Bool.and_eq_true,Nat.ble_eq]at h;simp only[Int.ofNat_eq_natCast];omega
 ·cases h
def zfm(_N:Nat):Con:=Con6.c ⟨142,Int,Unit,W4,fun n=>chk (zcN n) (some ()),fun _ _=>⟨.tup [],[some (.cells 165 [.ptr 0 0,.rwp 1]),some (.bytes 5 [])]⟩⟩
theorem zaw(N:Nat):SoundC Tryz.prog GP (zfm N):=by
 intro args h (n:Int) r hd hs;have hd:W4 args h=some n:=hd;have hs:chk (zcN n) (some ())=some r:=hs;obtain⟨hm,hs⟩:=zo hs;obtain⟨hm1,hm2⟩:=zj2 hm;unfold W4 at hd;split at hd
 ·cases hd;refine⟨jt (by kernel_rfl),fun R G w vs hGP W hargs=>?_⟩;have F:=JC W;obtain⟨r0,hr0,hlk0,hv0,hfp0,cs,hcs,hrel⟩:=F.look_live (i:=0) rfl;obtain⟨u,us,rfl,⟨f,hf,_,rfl⟩,u2,us2,rfl,rfl,hus⟩:=hargs;have hus:us2=[]:=hus;subst hus;rw[hlk0]at hf;cases hf;obtain⟨c0,cr,rfl,⟨f,hf,_,rfl⟩,c1,cr1,rfl,h1,hcr⟩:=hrel;have hcr:cr1=[]:=hcr;subst hcr;have h1:c1=.slice none 0 0:=h1;subst h1;rw[hlk0]at hf;cases hf;obtain⟨k,rfl⟩:∃k:Nat,n=k:=⟨n.toNat,by omega⟩
  refine(zrr r0.b k w hcs (by omega)).mono fun e w' ⟨he,kp,g,cap,cells,hg,hcap,hsz,hb',hg'⟩=>?_
  have hlt:r0.b<w.heap.size:=zL hcs;have hG:G.length=1:=by simpa using W.len
  have hG0:∀r',[r0,⟨g,false,cap,[g]⟩][0]? =some r'→r'=r0:=fun r' h=>by simpa using h.symm
  have l0:Am.look [r0,(⟨g,false,cap,[g]⟩:Res)] [some (.cells 165 [.ptr 0 0,.rwp 1]),some (.bytes 5 [])] 0=some ⟨r0.b,r0.virt,r0.cap,0⟩:=rfl;have l1:Am.look [r0,(⟨g,false,cap,[g]⟩:Res)] [some (.cells 165 [.ptr 0 0,.rwp 1]),some (.bytes 5 [])] 1=some ⟨g,false,cap,0⟩:=rfl;have two:∀{h:Heap}{i:Nat},h.length=2→i∉[0,1]→¬live h i:=fun hl hi hlv=>by have:=jh hlv;simp at hi;omega
  obtain⟨s1,s2⟩:=yx (R':=R) (G':=[r0,⟨g,false,cap,[g]⟩]) (h':=[some (.cells 165 [.ptr 0 0,.rwp 1]),some (.bytes 5 [])]) (A:=[0,1]) (Fr:=fun _=>False) F.wrel F.since kp
   (fun b hb=>.inr ⟨0,r0,by simp,⟨_,rfl⟩,hr0,by rw[hfp0];exact hb⟩) (fun _ h=>h.elim) rfl (by simp) (fun i hi hl=>(two rfl hi hl).elim)
   (fun i o hi ho=>(two rfl hi ⟨o,ho⟩).elim) (fun _ _ h=>h) (fun b o h1 h2=>by rw[h1]at h2;cases h2)
   (fun i o r hi ho hr=>by
    rcases List.mem_cons.1 hi with rfl|hi
    ·have ho:some (AO.cells 165 [.ptr 0 0,.rwp 1])=some o:=ho;cases ho;have hr:=hG0 _ hr;subst hr;exact⟨⟨hv0,hfp0,[.pointer (some ⟨r.b,0,none⟩),.slice (some ⟨g,0,none⟩) 0 cap],hb',_,_,rfl,⟨_,l0,hv0,rfl⟩,_,_,rfl,⟨_,l1,rfl,by show 1≤cap;omega,rfl⟩,rfl⟩,
      fun b hb=>⟨W.sepR 0 r ⟨_,rfl⟩ hr0 b hb,.inr (.inl ⟨0,r,by simp,⟨_,rfl⟩,hr0,hb⟩)⟩⟩
    ·have hi:i=1:=by simpa using hi
     subst hi;have ho:some (AO.bytes 5 [])=some o:=ho;cases ho;have hr:some (⟨g,false,cap,[g]⟩:Res)=some r:=hr;cases hr;refine⟨.inr ⟨rfl,rfl,Nat.zero_le _,[],cells.toList,(0,0),by simpa using hg',rfl,rfl,by have:=hsz;simp;omega,Nat.le_refl _,fun j _ h2=>by omega⟩,fun b hb=>?_⟩;have hb:b=g:=by simpa using hb
     subst hb;refine⟨?_,.inr (.inr hg)⟩;cases hrb:R b with
     |none=>rfl
     |some ob=>have:=zL (W.ro _ _ hrb);omega)
   (fun i j ri rj hij hi hj hli hlj hri hrj b hb=>by
    have z:∀x,x∈[0,1]→x=0∨x=1:=by simp
    have f0:∀r,[r0,(⟨g,false,cap,[g]⟩:Res)][0]? =some r→r.fp=[r0.b]:=fun r h=>by have h:=hG0 _ h;subst h;exact hfp0
    have f1:∀r,[r0,(⟨g,false,cap,[g]⟩:Res)][1]? =some r→r.fp=[g]:=fun r h=>by have h:some (⟨g,false,cap,[g]⟩:Res)=some r:=h;cases h;rfl
    rcases z i hi with rfl|rfl<;>rcases z j hj with rfl|rfl
    ·exact (hij rfl).elim
    ·rw[f0 _ hri]at hb;rw[f1 _ hrj];simp only[List.mem_singleton]at hb⊢;omega
    ·rw[f1 _ hri]at hb;rw[f0 _ hrj];simp only[List.mem_singleton]at hb⊢;omega
    ·exact (hij rfl).elim)
   (fun i hi hA hl=>by
    have hi:i<1:=hi;have hi:i=0:=by omega
    subst hi;show Am.look _ _ 0=Am.look G _ 0;rw[l0,zW (o:=.cells 165 [.ptr 0 0,.nils]) rfl hr0];rfl)
  exact⟨_,R,_,he,s1,s2,⟨[],rfl,rfl⟩⟩
 ·cases hd
end Go.Proofs.C06
end
