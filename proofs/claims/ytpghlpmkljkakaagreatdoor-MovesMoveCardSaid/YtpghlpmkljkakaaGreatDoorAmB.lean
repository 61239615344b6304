/-
  A part of the proof of the laws on moves.
-/
import Derived.Test.YtpghlpmkljkakaaGreatDoorAm18
import Derived.Test.YtpghlpmkljkakaaGreatDoorAm27
import Derived.Test.YtpghlpmkljkakaaGreatDoorProg
import Derived.Test.YtpghlpmkljkakaaGreatDoorChecked
import Derived.Test.YtpghlpmkljkakaaGreatDoorShelf
import Derived.Shelf.Strings.SlTrimAscii
import Derived.Shelf.Strings.Builder1
import Derived.WalkKit
section
set_option maxHeartbeats 4000000
set_option maxRecDepth 100000
namespace Go.Proofs.C06
open Go Go.RowKit Go.Vc Go.Am
def nG:Nat:=11
structure Gd(w:World):Prop where
 maxLen:∃m,w.cell? ⟨2,0,none⟩=some (.int .i64 m)
 pow:Lib.TabIs Tryz.prog w "internal/strconv.uint64pow10" .u64 Lib.pow10Tab
def gl:Glob:=[(3,.agg [.int .u8 36,.int .u8 43,.int .u8 45])]
def GP(R:Ro):Prop:=(∀w:World,(∀b o,R b=some o→w.heap[b]? =some o)→Gd w)∧GlobOK gl R
theorem gd(R:Ro)(w:World)(h:GP R)(hw:∀b o,R b=some o→w.heap[b]? =some o):Gd w:=h.1 w hw
theorem zun(R:Ro)(h:GP R):GlobOK gl R:=h.2
theorem znW:Stays GP:=fun R R' hs h=>⟨fun w hw=>h.1 w fun b o hb=>hw b o (hs b o hb),fun g=>zh hs _ _ (fun i hi=>by rw[Jw]at hi;cases hi) (h.2 g)⟩
theorem mixed:Tryz.prog.follows .mixedOrders=true:=Tryz.checked.mixed
theorem bas:Bas Tryz.prog GP gl:=⟨mixed,zun,znW⟩
def jD(vs:List AV)(h:Heap):Option (List UInt8×List UInt8):=match vs,h with
 |[.str q0,.str q1],[]=>some (q0,q1)
 |_,_=>none
theorem yM(vs:List AV)(h:Heap)(x:List UInt8×List UInt8)(hx:jD vs h=some x):vs=[.str x.1,.str x.2]∧h=[]:=by unfold jD at hx;split at hx<;>cases hx;exact⟨rfl,rfl⟩
def zeQ(_N:Nat):Con:=⟨93,List UInt8×List UInt8,Bool,jD,fun x=>Wx x.1 x.2,fun _ r=>⟨.bool r,[]⟩⟩
theorem zbW(N:Nat):SoundC Tryz.prog GP (zeQ N):=zK gd (fun x=>[.str x.1,.str x.2]) (fun x=>[.string (bs x.1),.string (bs x.2)]) (fun r=>.bool r) (by kernel_rfl) yM (fun _=>rfl) (fun _=>rfl) fun x r w hG h=>by cases h;exact (Tryz.strings_HasPrefix (bs x.1) (bs x.2) w).mono fun e w' ⟨h1,h2⟩=>⟨h1,.of_eq h2⟩
def zeV(_N:Nat):Con:=⟨80,List UInt8×List UInt8,List UInt8×Bool,jD,fun x=>QE x.1 x.2,fun _ r=>⟨.tup [.str r.1,.bool r.2],[]⟩⟩
theorem YG(N:Nat):SoundC Tryz.prog GP (zeV N):=zK gd (fun x=>[.str x.1,.str x.2]) (fun x=>[.string (bs x.1),.string (bs x.2)]) (fun r=>.tuple #[.string (bs r.1),.bool r.2]) (by kernel_rfl) yM (fun _=>rfl) (fun _=>rfl) fun x r w hG h=>by cases h;exact (Tryz.strings_CutPrefix (bs x.1) (bs x.2) w).mono fun e w' ⟨h1,h2⟩=>⟨h1,.of_eq h2⟩
def zeU(_N:Nat):Con:=⟨115,List UInt8×List UInt8,List UInt8×Bool,jD,fun x=>yU x.1 x.2,fun _ r=>⟨.tup [.str r.1,.bool r.2],[]⟩⟩
theorem YF(N:Nat):SoundC Tryz.prog GP (zeU N):=zK gd (fun x=>[.str x.1,.str x.2]) (fun x=>[.string (bs x.1),.string (bs x.2)]) (fun r=>.tuple #[.string (bs r.1),.bool r.2]) (by kernel_rfl) yM (fun _=>rfl) (fun _=>rfl) fun x r w hG h=>by obtain⟨hc,h⟩:=zo h;cases h;exact (Tryz.strings_CutSuffix (bs x.1) (bs x.2) w (by rw[zX];exact JM hc)).mono fun e w' ⟨h1,h2⟩=>⟨h1,.of_eq h2⟩
def zda(_N:Nat):Con:=⟨148,List UInt8×List UInt8,List UInt8,jD,fun x=>XX x.1 x.2,fun _ r=>⟨.str r,[]⟩⟩
theorem zaE(N:Nat):SoundC Tryz.prog GP (zda N):=zK gd (fun x=>[.str x.1,.str x.2]) (fun x=>[.string (bs x.1),.string (bs x.2)]) (fun r=>.string (bs r)) (by kernel_rfl) yM (fun _=>rfl) (fun _=>rfl) fun x r w hG h=>by obtain⟨hc,h⟩:=zo h;cases h;exact (Tryz.strings_TrimSuffix (bs x.1) (bs x.2) w (by rw[zX];exact JM hc)).mono fun e w' ⟨h1,h2⟩=>⟨h1,.of_eq h2⟩
def zfH(vs:List AV)(h:Heap):Option (List UInt8×Int):=match vs,h with
 |[.str q0,.int .u8 q1],[]=>some (q0,q1)
 |_,_=>none
theorem ztw(vs:List AV)(h:Heap)(x:List UInt8×Int)(hx:zfH vs h=some x):vs=[.str x.1,.int .u8 x.2]∧h=[]:=by unfold zfH at hx;split at hx<;>cases hx;exact⟨rfl,rfl⟩
def zeO(_N:Nat):Con:=⟨136,List UInt8×Int,Int,zfH,fun x=>jX x.1 x.2,fun _ r=>⟨.int .i64 r,[]⟩⟩
theorem qT(N:Nat):SoundC Tryz.prog GP (zeO N):=zK gd (fun x=>[.str x.1,.int .u8 x.2]) (fun x=>[.string (bs x.1),.int .u8 x.2]) (fun r=>.int .i64 r) (by kernel_rfl) ztw (fun _=>rfl) (fun _=>rfl) fun x r w hG h=>by cases h;exact (Tryz.strings_IndexByte (bs x.1) x.2 w).mono fun e w' ⟨h1,h2⟩=>⟨h1,.of_eq h2⟩
def zre(_N:Nat):Con:=⟨125,List UInt8×List UInt8,List UInt8×List UInt8×Bool,jD,fun x=>zuh x.1 x.2,fun _ r=>⟨.tup [.str r.1,.str r.2.1,.bool r.2.2],[]⟩⟩
theorem zmQ(N:Nat):SoundC Tryz.prog GP (zre N):=zK gd (fun x=>[.str x.1,.str x.2]) (fun x=>[.string (bs x.1),.string (bs x.2)]) (fun r=>.tuple #[.string (bs r.1),.string (bs r.2.1),.bool r.2.2]) (by kernel_rfl) yM (fun _=>rfl) (fun _=>rfl) fun x r w hG h=>by obtain⟨hc,h⟩:=zo h;cases h;obtain⟨m,hm⟩:=hG.maxLen;exact (Tryz.strings_Cut (bs x.1) (bs x.2) m w (by rw[zX];exact JM hc) hm).mono fun e w' ⟨h1,n,h2⟩=>⟨h1,h2▸Keeps.drewN _ _⟩
def zmR(_N:Nat):Con:=⟨113,List UInt8×List UInt8,Int,jD,fun x=>qU x.1 x.2,fun _ r=>⟨.int .i64 r,[]⟩⟩
theorem qx(N:Nat):SoundC Tryz.prog GP (zmR N):=zK gd (fun x=>[.str x.1,.str x.2]) (fun x=>[.string (bs x.1),.string (bs x.2)]) (fun r=>.int .i64 r) (by kernel_rfl) yM (fun _=>rfl) (fun _=>rfl) fun x r w hG h=>by
 obtain⟨s,p⟩:=x
 match p,h with
 |[c],h=>cases h;exact (Tryz.strings_Count_one (bs s) c w).mono fun e w' ⟨h1,h2⟩=>⟨h1,.of_eq h2⟩
def zgi(_N:Nat):Con:=⟨199,List UInt8×List UInt8,Bool,jD,fun x=>YH x.1 x.2,fun _ r=>⟨.bool r,[]⟩⟩
theorem Xo(N:Nat):SoundC Tryz.prog GP (zgi N):=zK gd (fun x=>[.str x.1,.str x.2]) (fun x=>[.string (bs x.1),.string (bs x.2)]) (fun r=>.bool r) (by kernel_rfl) yM (fun _=>rfl) (fun _=>rfl) fun x r w hG h=>by
 obtain⟨s,p⟩:=x
 match p,h with
 |[c],h=>cases h;exact (Tryz.strings_Contains_one (bs s) c w).mono fun e w' ⟨h1,h2⟩=>⟨h1,.of_eq h2⟩
def zgf(_N:Nat):Con:=⟨90,List UInt8×List UInt8,List UInt8,jD,fun x=>ZW x.1 x.2,fun _ r=>⟨.str r,[]⟩⟩
theorem Xn(N:Nat):SoundC Tryz.prog GP (zgf N):=zK gd (fun x=>[.str x.1,.str x.2]) (fun x=>[.string (bs x.1),.string (bs x.2)]) (fun r=>.string (bs r)) (by kernel_rfl) yM (fun _=>rfl) (fun _=>rfl) fun x r w hG h=>by obtain⟨hc,h⟩:=zo h;obtain⟨hc,ha⟩:=zbi hc;cases h;exact (Any.strings_TrimLeft_laid Tryz.lays161 (by kernel_rfl) (bs x.1) (bs x.2) w (by rw[zX];exact JM hc) (Ku ha)).mono fun e w' ⟨h1,h2⟩=>⟨h1,.of_below h2⟩
def zeJ(_N:Nat):Con:=⟨149,List UInt8×List UInt8,List UInt8,jD,fun x=>Wt x.1 x.2,fun _ r=>⟨.str r,[]⟩⟩
theorem zbS(N:Nat):SoundC Tryz.prog GP (zeJ N):=zK gd (fun x=>[.str x.1,.str x.2]) (fun x=>[.string (bs x.1),.string (bs x.2)]) (fun r=>.string (bs r)) (by kernel_rfl) yM (fun _=>rfl) (fun _=>rfl) fun x r w hG h=>by obtain⟨hc,h⟩:=zo h;obtain⟨hc,ha⟩:=zbi hc;obtain⟨hc2,ha⟩:=zbi ha;cases h;exact (Any.strings_TrimRight_laid Tryz.lays162 (by kernel_rfl) (bs x.1) (bs x.2) w (by rw[zX];exact JM hc) (by rw[zX];exact JM hc2) (Ku ha)).mono fun e w' ⟨h1,h2⟩=>⟨h1,.of_below h2⟩
def zpk(_N:Nat):Con:=⟨53,List UInt8×List UInt8,List UInt8,jD,fun x=>Zp x.1 x.2,fun _ r=>⟨.str r,[]⟩⟩
theorem jQ(N:Nat):SoundC Tryz.prog GP (zpk N):=zK gd (fun x=>[.str x.1,.str x.2]) (fun x=>[.string (bs x.1),.string (bs x.2)]) (fun r=>.string (bs r)) (by kernel_rfl) yM (fun _=>rfl) (fun _=>rfl) fun x r w hG h=>by obtain⟨hc,h⟩:=zo h;obtain⟨hc,ha⟩:=zbi hc;obtain⟨hc2,ha⟩:=zbi ha;cases h;exact (Any.strings_Trim_laid Tryz.lays160 (by kernel_rfl) (bs x.1) (bs x.2) w (by rw[zX];exact JM hc) (by rw[zX];exact JM hc2) (Ku ha)).mono fun e w' ⟨h1,h2⟩=>⟨h1,.of_below h2⟩
def zeP(_N:Nat):Con:=⟨91,List UInt8×List UInt8,Bool,jD,fun x=>QB x.1 x.2,fun _ r=>⟨.bool r,[]⟩⟩
theorem zbV(N:Nat):SoundC Tryz.prog GP (zeP N):=zK gd (fun x=>[.str x.1,.str x.2]) (fun x=>[.string (bs x.1),.string (bs x.2)]) (fun r=>.bool r) (by kernel_rfl) yM (fun _=>rfl) (fun _=>rfl) fun x r w hG h=>by obtain⟨hc,h⟩:=zo h;cases h;exact (Tryz.strings_HasSuffix (bs x.1) (bs x.2) w (by rw[zX];exact JM hc)).mono fun e w' ⟨h1,h2⟩=>⟨h1,.of_eq h2⟩
def zfI(vs:List AV)(h:Heap):Option (Int×Int):=match vs,h with
 |[.int .i64 q0,.int .i64 q1],[]=>some (q0,q1)
 |_,_=>none
theorem ztx(vs:List AV)(h:Heap)(x:Int×Int)(hx:zfI vs h=some x):vs=[.int .i64 x.1,.int .i64 x.2]∧h=[]:=by unfold zfI at hx;split at hx<;>cases hx;exact⟨rfl,rfl⟩
def zeR(_N:Nat):Con:=⟨81,Int×Int,List UInt8,zfI,fun x=>zeS x.1 x.2,fun _ r=>⟨.str r,[]⟩⟩
theorem zbX(N:Nat):SoundC Tryz.prog GP (zeR N):=zK gd (fun x=>[.int .i64 x.1,.int .i64 x.2]) (fun x=>[.int .i64 x.1,.int .i64 x.2]) (fun r=>.string (bs r)) (by kernel_rfl) ztx (fun _=>rfl) (fun _=>rfl) fun x r w hG h=>by obtain⟨hc,h⟩:=zo h;obtain⟨h10,hc⟩:=zbi hc;obtain⟨h1,h2⟩:=zbi hc;cases h;obtain⟨n,b⟩:=x;obtain rfl:b=10:=JM h10;exact (Tryz.strconv_FormatInt_10 n (JM h1) (JM h2) w hG.pow).mono fun e w' ⟨h1,k,os,h2⟩=>⟨h1,h2▸(Keeps.drewN _ _).trans (Keeps.grow _ _)⟩
def zfF(vs:List AV)(h:Heap):Option (List UInt8×Int):=match vs,h with
 |[.str q0,.int .i32 q1],[]=>some (q0,q1)
 |_,_=>none
theorem ztu(vs:List AV)(h:Heap)(x:List UInt8×Int)(hx:zfF vs h=some x):vs=[.str x.1,.int .i32 x.2]∧h=[]:=by unfold zfF at hx;split at hx<;>cases hx;exact⟨rfl,rfl⟩
def zaK(_N:Nat):Con:=⟨134,List UInt8×Int,Bool,zfF,fun x=>Yg x.1 x.2,fun _ r=>⟨.bool r,[]⟩⟩
theorem Vu(N:Nat):SoundC Tryz.prog GP (zaK N):=zK gd (fun x=>[.str x.1,.int .i32 x.2]) (fun x=>[.string (bs x.1),.int .i32 x.2]) (fun r=>.bool r) (by kernel_rfl) ztu (fun _=>rfl) (fun _=>rfl) fun x r w hG h=>by obtain⟨hc,h⟩:=zo h;obtain⟨h1,h2⟩:=zbi hc;cases h;exact (Tryz.strings_ContainsRune_ascii (bs x.1) x.2 w (JM h1) (JM h2)).mono fun e w' ⟨h1,h2⟩=>⟨h1,.of_eq h2⟩
def zbZ(_N:Nat):Con:=⟨146,List UInt8×List UInt8,Bool,jD,fun x=>ZK x.1 x.2,fun _ r=>⟨.bool r,[]⟩⟩
theorem Wz(N:Nat):SoundC Tryz.prog GP (zbZ N):=zK gd (fun x=>[.str x.1,.str x.2]) (fun x=>[.string (bs x.1),.string (bs x.2)]) (fun r=>.bool r) (by kernel_rfl) yM (fun _=>rfl) (fun _=>rfl) fun x r w hG h=>by obtain⟨hc,h⟩:=zo h;obtain⟨h1,hc⟩:=zbi hc;obtain⟨h2,hc⟩:=zbi hc;obtain⟨h3,h4⟩:=zbi hc;cases h;exact (Tryz.strings_ContainsAny_laid (bs x.1) (bs x.2) w (by rw[zX];exact JM h1) (by rw[zX];exact JM h2) (Ku h3) (Ku h4)).mono fun e w' ⟨h1,h2⟩=>⟨h1,.of_below h2⟩
def zjf(vs:List AV)(h:Heap):Option (Int):=match vs,h with
 |[.int .i32 q0],[]=>some q0
 |_,_=>none
theorem zuN(vs:List AV)(h:Heap)(x:Int)(hx:zjf vs h=some x):vs=[.int .i32 x]∧h=[]:=by unfold zjf at hx;split at hx<;>cases hx;exact⟨rfl,rfl⟩
def ziw(_N:Nat):Con:=⟨137,Int,Int,zjf,fun x=>Jm x,fun _ r=>⟨.int .i64 r,[]⟩⟩
theorem XY(N:Nat):SoundC Tryz.prog GP (ziw N):=zK gd (fun x=>[.int .i32 x]) (fun x=>[.int .i32 x]) (fun r=>.int .i64 r) (by kernel_rfl) zuN (fun _=>rfl) (fun _=>rfl) fun x r w hG h=>by cases h;exact (Tryz.utf8_RuneLen x w).mono fun e w' ⟨h1,h2⟩=>⟨h1,.of_eq h2⟩
def zfG(vs:List AV)(h:Heap):Option (List UInt8×Int):=match vs,h with
 |[.str q0,.int .i64 q1],[]=>some (q0,q1)
 |_,_=>none
theorem ztv(vs:List AV)(h:Heap)(x:List UInt8×Int)(hx:zfG vs h=some x):vs=[.str x.1,.int .i64 x.2]∧h=[]:=by unfold zfG at hx;split at hx<;>cases hx;exact⟨rfl,rfl⟩
def zkB(_N:Nat):Con:=⟨52,List UInt8×Int,List UInt8,zfG,fun x=>jJ x.1 x.2,fun _ r=>⟨.str r,[]⟩⟩
theorem j5(N:Nat):SoundC Tryz.prog GP (zkB N):=zK gd (fun x=>[.str x.1,.int .i64 x.2]) (fun x=>[.string (bs x.1),.int .i64 x.2]) (fun r=>.string (bs r)) (by kernel_rfl) ztv (fun _=>rfl) (fun _=>rfl) fun x r w hG h=>by
 obtain⟨hc,h⟩:=zo h;obtain⟨h1,hc⟩:=zbi hc;obtain⟨h2,h3⟩:=zbi hc;have h1:=JM h1;have h2:=JM h2;have h3:=JM h3;cases h;obtain⟨s,c⟩:=x;obtain⟨k,rfl⟩:∃k:Nat,c=k:=⟨c.toNat,by simp only at h1;omega⟩
 simp only[Int.toNat_natCast]at*
 exact (Tryz.strings_Repeat (bs s) k w (by omega) (by rw[zX];exact h3)).mono fun e w' ⟨h1,h2⟩=>⟨h1,.of_below h2⟩
def zje(vs:List AV)(h:Heap):Option (List UInt8):=match vs,h with
 |[.str q0],[]=>some q0
 |_,_=>none
theorem zuM(vs:List AV)(h:Heap)(x:List UInt8)(hx:zje vs h=some x):vs=[.str x]∧h=[]:=by unfold zje at hx;split at hx<;>cases hx;exact⟨rfl,rfl⟩
def zpo(_N:Nat):Con:=⟨181,List UInt8,Int,zje,fun x=>zoh x,fun _ r=>⟨.tup [.int .i64 r,.nili],[]⟩⟩
theorem zkG(N:Nat):SoundC Tryz.prog GP (zpo N):=zK gd (fun x=>[.str x]) (fun x=>[.string (bs x)]) (fun r=>.tuple #[.int .i64 r,.nilIface]) (by kernel_rfl) zuM (fun _=>rfl) (fun _=>rfl) fun x r w hG h=>by obtain⟨hc,h⟩:=zo h;exact (Tryz.strconv_Atoi (bs x) r (by rw[zX];exact JM hc) h w).mono fun e w' ⟨h1,t,h2⟩=>⟨h1,by subst h2;exact .of_below (Lib.bytesWorld_below _ _ _)⟩
end Go.Proofs.C06
end
section
set_option maxHeartbeats 4000000
set_option maxRecDepth 100000
namespace Go.Proofs.C06
open Go Go.RowKit Go.Vc Go.Am
theorem ztm(b:Nat)(w:World)(h0:w.cell? ⟨b,0,none⟩=some (.pointer (some ⟨b,0,none⟩))):
  Calls Tryz.prog 130 #[.pointer (some ⟨b,0,none⟩)] w fun e w'=>e=.returned (.tuple #[])∧w'=w:=by
 have hsz:∃j,Tryz.prog.info? 143=some j:=⟨_,rfl⟩
 obtain⟨j,hj⟩:=hsz
 go_enter Tryz.func130,Tryz.ntmps130
 go_wp2
 rw[Lib.run_neq_ptr_same w _ (by kernel_rfl) hj]
 go_wp2
 go_end0
 exact⟨rfl,rfl⟩
theorem zr4(b:Nat)(w:World)(h0:w.cell? ⟨b,0,none⟩=some (.pointer none))(hsh:w.shape? b=some (143,2))(hfz:w.frozen? ⟨b,0,none⟩=false):
  Calls Tryz.prog 130 #[.pointer (some ⟨b,0,none⟩)] w fun e w'=>e=.returned (.tuple #[])∧w'=w.setCell ⟨b,0,none⟩ (.pointer (some ⟨b,0,none⟩)):=by
 have hsz:∃j,Tryz.prog.info? 143=some j∧j.size=2:=⟨_,rfl,by kernel_rfl⟩
 obtain⟨j,hj,hjs⟩:=hsz;have t55:Tryz.prog.underlying 141=some (.pointer 143):=by kernel_rfl
 have t109:Tryz.prog.underlying 211=some (.unsafePointer):=by kernel_rfl
 go_enter Tryz.func130,Tryz.ntmps130
 go_wp2
 rw[Lib.run_to_unsafe w ⟨b,0,none⟩ t55 t109 hj (by rw[hjs];decide) hsh (Nat.zero_lt_succ 1)];simp only[Result.andThen];rw[Oper.upon_value]
 go_wp2
 rw[run_callFunc_extern Tryz.func174 (by kernel_rfl) (by kernel_rfl) (by kernel_rfl) (e:=Extern.AbiNoEscape.same) (by kernel_rfl)];rw[Lib.run_noEscape];simp only[Result.andThen];rw[Oper.upon_value]
 go_wp2
 rw[Lib.run_from_unsafe w ⟨b,0,none⟩ t109 t55 hj hsh (by kernel_rfl)];simp only[Result.andThen];rw[Oper.upon_value]
 go_wp2
 go_end0
 exact⟨rfl,rfl⟩
def WM(vs:List AV)(h:Heap):Option (AV×Heap):=match vs,h with
 |[.ptr 0 0],some (.cells 143 [.ptr 0 0,v])::h=>some (v,h)
 |_,_=>none
def Kp(vs:List AV)(h:Heap):Option (AV×Heap):=match vs,h with
 |[.ptr 0 0],some (.cells 143 [.nilp,v])::h=>some (v,h)
 |_,_=>none
def znm(_N:Nat):Con:=⟨130,AV×Heap,Unit,WM,fun _=>some (),fun x _=>⟨.tup [],some (.cells 143 [.ptr 0 0,x.1])::x.2⟩⟩
def zlw(_N:Nat):Con:=⟨130,AV×Heap,Unit,Kp,fun _=>some (),fun x _=>⟨.tup [],some (.cells 143 [.ptr 0 0,x.1])::x.2⟩⟩
theorem ZM(N:Nat):SoundC Tryz.prog GP (znm N):=by
 intro args h x r hd hs;have hd:WM args h=some x:=hd;unfold WM at hd;split at hd
 ·rename_i v hp hq;cases hd;refine⟨jw (by kernel_rfl),fun R G w vs hGP W hargs=>?_⟩;have F:=Y9 W;obtain⟨r0,hr,hlk,hv0,hfp,cs,hcs,hrel⟩:=F.look_live (i:=0) rfl;obtain⟨u,us,rfl,⟨f,hf,_,rfl⟩,hus⟩:=hargs;have hus:us=[]:=hus;subst hus;rw[hlk]at hf;cases hf;obtain⟨c0,cr,rfl,⟨f,hf,_,rfl⟩,_⟩:=hrel;rw[hlk]at hf;cases hf;refine(ztm r0.b w (by simp[World.cell?,hcs])).mono fun e w' ⟨he,hw⟩=>?_
  subst hw;exact⟨_,R,G,he,W,F.since,⟨[],rfl,rfl⟩⟩
 ·cases hd
theorem VX(N:Nat):SoundC Tryz.prog GP (zlw N):=by
 intro args h x r hd hs;have hd:Kp args h=some x:=hd;unfold Kp at hd;split at hd
 ·rename_i v hp hq;cases hd;refine⟨jw (by kernel_rfl),fun R G w vs hGP W hargs=>?_⟩;have F:=Y9 W;obtain⟨r0,hr,hlk,hv0,hfp,cs,hcs,hrel⟩:=F.look_live (i:=0) rfl;obtain⟨u,us,rfl,⟨f,hf,_,rfl⟩,hus⟩:=hargs;have hus:us=[]:=hus;subst hus;rw[hlk]at hf;cases hf;obtain⟨c0,cr,rfl,h0,c1,cr1,rfl,h1,hcr⟩:=hrel;have hcr:cr1=[]:=hcr;subst hcr;have h0:c0=.pointer none:=h0;subst h0;refine(zr4 r0.b w (by simp[World.cell?,hcs]) (by simp[World.shape?,hcs]) (by simp[World.frozen?,hcs])).mono fun e w' ⟨he,hw⟩=>?_
  subst hw;obtain⟨s1,s2⟩:=XH (o:=0) (v:=.pointer (some ⟨r0.b,0,none⟩)) hcs;obtain⟨F',_⟩:=F.write (i:=0) (ao:=.cells 143 [.ptr 0 0,v]) rfl hr rfl hfp s2 (fun L' hL=>⟨hv0,hfp,_,s1,_,_,rfl,⟨_,hL _ _ hlk,hv0,rfl⟩,_,_,rfl,zh (fun _ _ h=>h) _ _ (fun j _ f hf=>hL j f hf) h1,rfl⟩);exact⟨_,R,G,he,F'.wrel,F'.since,⟨[],rfl,rfl⟩⟩
 ·cases hd
end Go.Proofs.C06
end
section
set_option maxHeartbeats 2000000
set_option maxRecDepth 100000
namespace Go.Proofs.C06
open Go Go.RowKit Go.Vc Go.Am
theorem zsv(b g cap:Nat)(p:Value)(cur:Array Value)(fr:Nat×Nat)(l:List UInt8)(w:World)(hl0:l≠[])(hbk:w.heap[b]? =some (.cells #[p,.slice (some ⟨g,0,none⟩) l.length cap] 143 (0,0)))
  (hg:w.heap[g]? =some (.cells cur 5 fr)) (hn:l.length≤cap) (hcs:l.length≤cur.size) (hsz:l.length≤9223372036854775807) (hcell:∀j x,l[j]? =some x→w.cell? ((⟨g,0,none⟩:Addr).add j)=some (.int .u8 x.toNat)):
  Calls Tryz.prog 97 #[.pointer (some ⟨b,0,none⟩)] w fun e w'=>e=.returned (.string ⟨l.toArray⟩)∧w'=w.drew.freeze ⟨g,0,none⟩ l.length:=by
 have hlen:l.length≠0:=by simpa using hl0
 have mixed:=Tryz.checked.mixed;have c1:w.drew.cell? ⟨b,1,none⟩=some (.slice (some ⟨g,0,none⟩) l.length cap):=by have:w.drew.heap[b]? =some (.cells #[p,.slice (some ⟨g,0,none⟩) l.length cap] 143 (0,0)):=hbk;rw[Lib.cell_of_heap this];rfl
 have hSD:(Builtin.unsafeSliceData_ #[25] 184 #[.slice (some ⟨g,0,none⟩) l.length cap]).run Tryz.prog w.drew=.ok (.pointer (some ⟨g,0,none⟩)) w.drew:=
  Lib.run_unsafeSliceData_row _ _ _ _ _ _ (by omega)
 have hUS:(Builtin.unsafeString_ #[184,3] 9 #[.pointer (some ⟨g,0,none⟩),.int .i64 l.length]).run Tryz.prog w.drew=.ok (.string ⟨l.toArray⟩) (w.drew.freeze ⟨g,0,none⟩ l.length):=by refine Lib.run_unsafeString_row w.drew 184 3 9 5 (by kernel_rfl) (by kernel_rfl) g cur.size (by have hg':w.drew.heap[g]? =some (.cells cur 5 fr):=hg;simp[World.shape?,hg']) l hl0 hcs hsz hcell
 go_enter Tryz.func97,Tryz.ntmps97
 go_wp2
 go_region_o
 all_goals (go_wp2;go_ret;exact⟨rfl,rfl⟩)
theorem znV(b:Nat)(p:Value)(w:World)(hbk:w.heap[b]? =some (.cells #[p,.slice none 0 0] 143 (0,0))):
  Calls Tryz.prog 97 #[.pointer (some ⟨b,0,none⟩)] w fun e w'=>e=.returned (.string ⟨#[]⟩)∧w'=w.drew:=by
 have mixed:=Tryz.checked.mixed;have hUS:(Builtin.unsafeString_ #[184,3] 9 #[.pointer none,.int .i64 0]).run Tryz.prog w.drew=.ok (.string .empty) w.drew:=Lib.run_unsafeString_none w.drew _ _ _ _;have c1:w.drew.cell? ⟨b,1,none⟩=some (.slice none 0 0):=by have:w.drew.heap[b]? =some (.cells #[p,.slice none 0 0] 143 (0,0)):=hbk;rw[Lib.cell_of_heap this];rfl
 have hSD:(Builtin.unsafeSliceData_ #[25] 184 #[.slice none 0 0]).run Tryz.prog w.drew=.ok (.pointer none) w.drew:=rfl
 go_enter Tryz.func97,Tryz.ntmps97
 go_wp2
 go_region_o
 all_goals (go_wp2;go_ret;exact⟨rfl,rfl⟩)
theorem zqt(b g cap:Nat)(p:Value)(w:World)(hc0:cap≠0)(hbk:w.heap[b]? =some (.cells #[p,.slice (some ⟨g,0,none⟩) 0 cap] 143 (0,0))):
  Calls Tryz.prog 97 #[.pointer (some ⟨b,0,none⟩)] w fun e w'=>e=.returned (.string ⟨#[]⟩)∧w'=w.drew:=by
 have mixed:=Tryz.checked.mixed;have hUS:(Builtin.unsafeString_ #[184,3] 9 #[.pointer (some ⟨g,0,none⟩),.int .i64 0]).run Tryz.prog w.drew=.ok (.string .empty) w.drew:=Lib.run_unsafeString_none w.drew _ _ _ _;have c1:w.drew.cell? ⟨b,1,none⟩=some (.slice (some ⟨g,0,none⟩) 0 cap):=by have:w.drew.heap[b]? =some (.cells #[p,.slice (some ⟨g,0,none⟩) 0 cap] 143 (0,0)):=hbk;rw[Lib.cell_of_heap this];rfl
 have hSD:(Builtin.unsafeSliceData_ #[25] 184 #[.slice (some ⟨g,0,none⟩) 0 cap]).run Tryz.prog w.drew=.ok (.pointer (some ⟨g,0,none⟩)) w.drew:=
  Lib.run_unsafeSliceData_row _ _ _ _ _ _ hc0
 clear hc0
 go_enter Tryz.func97,Tryz.ntmps97
 go_wp2
 go_region_o
 all_goals (go_wp2;go_ret;exact⟨rfl,rfl⟩)
theorem zl9(b g:Nat)(p:Value)(cur:Array Value)(fr:Nat×Nat)(w:World)(hbk:w.heap[b]? =some (.cells #[p,.slice (some ⟨g,0,none⟩) 0 0] 143 (0,0)))(hg:w.heap[g]? =some (.cells cur 5 fr)):
  Calls Tryz.prog 97 #[.pointer (some ⟨b,0,none⟩)] w fun e w'=>e=.returned (.string ⟨#[]⟩)∧Vc.Keeps [] w w':=by
 have mixed:=Tryz.checked.mixed;have hUS:∀W q,(Builtin.unsafeString_ #[184,3] 9 #[.pointer q,.int .i64 0]).run Tryz.prog W=.ok (.string .empty) W:=fun W q=>Lib.run_unsafeString_none W _ _ _ _
 have hlt:b<w.heap.size:=(Array.getElem?_eq_some_iff.1 hbk).1;have c1:w.drew.cell? ⟨b,1,none⟩=some (.slice (some ⟨g,0,none⟩) 0 0):=by have:w.drew.heap[b]? =some (.cells #[p,.slice (some ⟨g,0,none⟩) 0 0] 143 (0,0)):=hbk;rw[Lib.cell_of_heap this];rfl
 have hSD:(Builtin.unsafeSliceData_ #[25] 184 #[.slice (some ⟨g,0,none⟩) 0 0]).run Tryz.prog w.drew=.ok (.pointer (some ⟨w.drew.heap.size,0,none⟩)) (w.drew.alloc (.view ⟨g,0,none⟩ 5)):=
  Lib.run_unsafeSliceData_zero w.drew _ _ 5 (by kernel_rfl) ⟨g,0,none⟩ 0 (5,cur.size) (by have hg':w.drew.heap[g]? =some (.cells cur 5 fr):=hg;simp[World.shape?,hg'])
 have c2:(w.drew.alloc (.view ⟨g,0,none⟩ 5)).cell? ⟨b,1,none⟩=some (.slice (some ⟨g,0,none⟩) 0 0):=by have:(w.drew.alloc (.view ⟨g,0,none⟩ 5)).heap[b]? =_:=(Lib.alloc_old w.drew _ b hlt).trans hbk;rw[Lib.cell_of_heap this];rfl
 have c3:(w.alloc (.view ⟨g,0,none⟩ 5)).drew.cell? ⟨b,1,none⟩=some (.slice (some ⟨g,0,none⟩) 0 0):=c2;have c0:w.cell? ⟨b,1,none⟩=some (.slice (some ⟨g,0,none⟩) 0 0):=c1
 go_enter Tryz.func97,Tryz.ntmps97
 go_wp2
 go_region_o
 all_goals (go_wp2;go_ret;exact⟨rfl,.of_below ((Below.drew (Below.refl _ w)).alloc (Nat.le_refl _) _)⟩)
theorem zuR{R:Ro}{G:List Res}{w w':World}{v:AV}{l:List UInt8}{r1:Res}(W:WRel R G [some (.cells 143 [.ptr 0 0,v]),some (.bytes 5 l)] w)(hr1:G[1]? =some r1)(k:Keeps r1.fp w w'):
  WRel R G [some (.cells 143 [.ptr 0 0,.undef]),none] w'∧Since ⟨R,Am.look G [some (.cells 143 [.ptr 0 0,v]),some (.bytes 5 l)],fpsAll G [some (.cells 143 [.ptr 0 0,v]),some (.bytes 5 l)],w,2⟩ R G [some (.cells 143 [.ptr 0 0,.undef]),none] w':=by
 have F:=Y9 W;obtain⟨r0,hr0,hlk0,hv0,hfp0,cs,hcs,hrel⟩:=F.look_live (i:=0) rfl;have two:∀{h:Heap}{i:Nat},h.length=2→i∉[0,1]→¬live h i:=fun hl hi hlv=>by have:=ji hlv;simp at hi;omega
 have dead1:¬live [some (.cells 143 [.ptr 0 0,.undef]),none] 1:=fun⟨o,ho⟩=>by simp[hget]at ho
 refine yx (G':=G) (h':=[some (.cells 143 [.ptr 0 0,.undef]),none]) (A:=[0,1]) (Fr:=fun _=>False) F.wrel F.since k
  (fun b hb=>.inr ⟨1,r1,by simp,⟨_,rfl⟩,hr1,hb⟩) (fun _ h=>h.elim) (by simpa using W.len) (by simp) (fun i hi hl=>(two rfl hi hl).elim)
  (fun i o hi ho=>(two rfl hi ⟨o,ho⟩).elim) (fun _ _ h=>h) (fun b o h1 h2=>by rw[h1]at h2;cases h2)
  (fun i o r hi ho hr=>?_) (fun i j ri rj hij hi hj hli hlj=>?_) (fun i hi hA hl=>?_)
 ·rcases List.mem_cons.1 hi with rfl|hi
  ·have ho:some (AO.cells 143 [.ptr 0 0,.undef])=some o:=ho;cases ho;rw[hr0]at hr;cases hr;obtain⟨c0,cr,rfl,⟨f,hf,hfv,rfl⟩,c1,cr1,rfl,h1,hcr⟩:=hrel;have hcr:cr1=[]:=hcr;subst hcr;rw[hlk0]at hf;cases hf;refine⟨⟨hv0,hfp0,[.pointer (some ⟨r0.b,0,none⟩),c1],?_,_,_,rfl,⟨_,zO (o:=.cells 143 [.ptr 0 0,.undef]) rfl hr0,hv0,rfl⟩,_,_,rfl,trivial,rfl⟩,fun b hb=>⟨W.sepR 0 r0 ⟨_,rfl⟩ hr0 b hb,.inr (.inl ⟨0,r0,by simp,⟨_,rfl⟩,hr0,hb⟩)⟩⟩;rw[k.block r0.b (zw hcs) (fun hm=>W.sep 0 1 r0 r1 (by simp) ⟨_,rfl⟩ ⟨_,rfl⟩ hr0 hr1 r0.b (by rw[hfp0];simp) hm)];exact hcs
  ·have hi:i=1:=by simpa using hi
   subst hi;exact (dead1 ⟨o,ho⟩).elim
 ·have z:∀x,x∈[0,1]→live [some (.cells 143 [.ptr 0 0,.undef]),none] x→x=0:=by
   intro x hx hl;rcases List.mem_cons.1 hx with rfl|hx
   ·rfl
   ·have hx:x=1:=by simpa using hx
    subst hx;exact (dead1 hl).elim
  exact (hij ((z i hi hli).trans (z j hj hlj).symm)).elim
 ·rcases List.mem_cons.1 hA with rfl|hA
  ·show Am.look G _ 0=Am.look G _ 0;rw[zO (o:=.cells 143 [.ptr 0 0,.undef]) rfl hr0,zO (o:=.cells 143 [.ptr 0 0,v]) rfl hr0];rfl
  ·have hA:i=1:=by simpa using hA
   subst hA;exact (dead1 hl).elim
theorem zsw{b:Nat}{p V:Value}{l:List UInt8}{r:Res}{w:World}(hbk:w.heap[b]? =some (.cells #[p,V] 143 (0,0)))(hrow:RowAt w r 5 1 l.length (fun cs=>cs=l.map u8V))(hV:V=yf r l.length)(hc:r.cap≤maxLen∨l.length≤maxLen):
  Calls Tryz.prog 97 #[.pointer (some ⟨b,0,none⟩)] w fun e w'=>e=.returned (.string (bs l))∧Keeps r.fp w w':=by
 subst hV;have hlm:l.length≤9223372036854775807:=by
  rcases hrow with⟨_,h0,_⟩|⟨_,_,hle,_⟩
  ·omega
  ·rcases hc with hc|hc
   ·exact Nat.le_trans hle hc
   ·exact hc
 rcases hrow with⟨g1,g2,g3,g4⟩|⟨g1,g2,g3,cs,tl,fr,g4,g5,g6,g7,g8⟩
 ·have hl:l=[]:=List.length_eq_zero_iff.1 g2;subst hl;rw[show yf r ([]:List UInt8).length=.slice none 0 0 by simp[yf,g1]]at hbk;exact (znV b p w hbk).mono fun e w' ⟨he,hw⟩=>⟨he,by subst hw;exact Keeps.drawn w _⟩
 ·rw[show yf r l.length=.slice (some ⟨r.b,0,none⟩) l.length r.cap by simp[yf,g1]]at hbk;rw[g2];have hd:Keeps [r.b] w w.drew:=Keeps.drawn w _;by_cases hl:l=[]
  ·subst hl;by_cases hcap:r.cap=0
   ·rw[hcap]at hbk;exact (zl9 b r.b p _ fr w hbk g4).mono fun e w' ⟨he,hw⟩=>⟨he,hw.wide⟩
   ·exact (zqt b r.b r.cap p w hcap hbk).mono fun e w' ⟨he,hw⟩=>⟨he,by subst hw;exact hd⟩
  ·have hg6:cs.length=l.length:=by rw[g5];simp
   refine(zsv b r.b r.cap p _ fr l w hl hbk g4 g3 (by simp;omega) hlm (fun j x hj=>?_)).mono fun e w' ⟨he,hw⟩=>⟨he,?_⟩
   ·rw[Vn,Nat.zero_add];have hjl:j<l.length:=(List.getElem?_eq_some_iff.1 hj).1;simp only[World.cell?,g4];have:(cs++tl).toArray[j]? =some (u8V x):=by simp only[List.getElem?_toArray];rw[List.getElem?_append_left (by omega),g5,List.getElem?_map,hj];rfl
    simpa[u8V]using this
   ·subst hw;refine hd.trans ⟨by unfold World.freeze;split<;>rfl,by unfold World.freeze;split<;>rfl,by unfold World.freeze;split<;>rfl,by unfold World.freeze;split<;>simp,fun k hk hne=>?_⟩;have hne:k≠r.b:=by simpa using hne
    unfold World.freeze;split
    ·rfl
    ·simp[Array.getElem?_modify,Ne.symm hne]
def XW(l:List UInt8):Bool:=decide (l.length≤9223372036854775807)
def zfA(vs:List AV)(h:Heap):Option (Bool×List UInt8):=match vs,h with
 |[.ptr 0 0],[some (.cells 143 [.ptr 0 0,.rw 1]),some (.bytes 5 l)]=>some (false,l)
 |[.ptr 0 0],[some (.cells 143 [.ptr 0 0,.rwp 1]),some (.bytes 5 l)]=>some (true,l)
 |_,_=>none
def zse(_N:Nat):Con:=⟨97,Bool×List UInt8,List UInt8,zfA,fun x=>chk (XW x.2) (some x.2),fun _ l=>⟨.str l,[some (.cells 143 [.ptr 0 0,.undef]),none]⟩⟩
theorem WT(N:Nat):SoundC Tryz.prog GP (zse N):=by
 intro args h x r hd hs;have hd:zfA args h=some x:=hd;have hs:chk (XW x.2) (some x.2)=some r:=hs;obtain⟨hm,hs⟩:=zo hs;cases hs;have hm:=of_decide_eq_true hm;have key:∀{v:AV}{l:List UInt8},l.length≤9223372036854775807→(∀(L:Lk)(R:Ro)(r1:Res)(V:Value),L 1=some ⟨r1.b,r1.virt,r1.cap,l.length⟩→Rel L R v V→V=yf r1 l.length)→
   ∀R G w vs,GP R→WRel R G [some (.cells 143 [.ptr 0 0,v]),some (.bytes 5 l)] w→RelL (Am.look G [some (.cells 143 [.ptr 0 0,v]),some (.bytes 5 l)]) R [.ptr 0 0] vs→
   Calls Tryz.prog 97 vs.toArray w fun e w'=>∃V R' G',e=.returned V∧WRel R' G' [some (.cells 143 [.ptr 0 0,.undef]),none] w'∧
   Since ⟨R,Am.look G [some (.cells 143 [.ptr 0 0,v]),some (.bytes 5 l)],fpsAll G [some (.cells 143 [.ptr 0 0,v]),some (.bytes 5 l)],w,2⟩ R' G' [some (.cells 143 [.ptr 0 0,.undef]),none] w'∧Rel (Am.look G' [some (.cells 143 [.ptr 0 0,.undef]),none]) R' (.str l) V:=by
  intro v l hlm hv R G w vs hGP W hargs;have F:=Y9 W;obtain⟨r0,hr0,hlk0,hv0,hfp0,cs,hcs,hrel⟩:=F.look_live (i:=0) rfl;obtain⟨r1,hr1,hlk1,hrow⟩:=F.look_live (i:=1) rfl;obtain⟨u,us,rfl,⟨f,hf,_,rfl⟩,hus⟩:=hargs;have hus:us=[]:=hus;subst hus;rw[hlk0]at hf;cases hf;obtain⟨c0,cr,rfl,h0,c1,cr1,rfl,h1,hcr⟩:=hrel;have hcr:cr1=[]:=hcr;subst hcr;have hV:=hv _ _ r1 _ hlk1 h1;simp only[ObjRel]at hrow;refine(zsw hcs hrow hV (.inr hlm)).mono fun e w' ⟨he,hk⟩=>?_
  obtain⟨g1,g2⟩:=zuR W hr1 hk;exact⟨_,R,G,he,g1,g2,rfl⟩
 unfold zfA at hd;split at hd
 ·cases hd;refine⟨jw (by kernel_rfl),key hm fun L R r1 V hL hV=>?_⟩;obtain⟨f,hf,h2,h3⟩:=hV;rw[hL]at hf;cases hf;unfold yf;cases hv:r1.virt with
  |true=>simp only[if_true];exact (h2 hv).2
  |false=>simp only[Bool.false_eq_true,if_false];exact h3 hv
 ·cases hd;refine⟨jw (by kernel_rfl),key hm fun L R r1 V hL hV=>?_⟩;obtain⟨f,hf,h2,_,h3⟩:=hV;rw[hL]at hf;cases hf;unfold yf;rw[if_neg (by simpa using h2)];exact h3
 ·cases hd
def zch(vs:List AV)(h:Heap):Option Unit:=match vs,h with
 |[.ptr 0 0],[some (.cells 143 [.nilp,.nils])]=>some ()
 |_,_=>none
def zpX(_N:Nat):Con:=⟨97,Unit,Unit,zch,fun _=>some (),fun _ _=>⟨.str [],[some (.cells 143 [.nilp,.nils])]⟩⟩
theorem zlF(N:Nat):SoundC Tryz.prog GP (zpX N):=by
 intro args h x r hd hs;have hd:zch args h=some x:=hd;unfold zch at hd;split at hd
 ·cases hd;refine⟨jw (by kernel_rfl),fun R G w vs hGP W hargs=>?_⟩;have F:=Y9 W;obtain⟨r0,hr0,hlk0,hv0,hfp0,cs,hcs,hrel⟩:=F.look_live (i:=0) rfl;obtain⟨u,us,rfl,⟨f,hf,_,rfl⟩,hus⟩:=hargs;have hus:us=[]:=hus;subst hus;rw[hlk0]at hf;cases hf;obtain⟨c0,cr,rfl,h0,c1,cr1,rfl,h1,hcr⟩:=hrel;have hcr:cr1=[]:=hcr;subst hcr;have h1:c1=.slice none 0 0:=h1;subst h1;refine(znV r0.b c0 w hcs).mono fun e w' ⟨he,hw⟩=>?_
  subst hw;have F':=F.keep (Keeps.drawn w (w.drew).drawn:Keeps [] w w.drew);exact⟨_,R,G,he,F'.wrel,F'.since,rfl⟩
 ·cases hd
end Go.Proofs.C06
end
