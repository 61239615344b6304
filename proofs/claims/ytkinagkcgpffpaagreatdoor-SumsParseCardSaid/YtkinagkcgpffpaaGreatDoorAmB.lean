/-
  A part of the proof of the laws.
-/
import Derived.Test.YtkinagkcgpffpaaGreatDoorAm18
import Derived.Test.YtkinagkcgpffpaaGreatDoorAm27
import Derived.Test.YtkinagkcgpffpaaGreatDoorProg
import Derived.Test.YtkinagkcgpffpaaGreatDoorChecked
import Derived.Test.YtkinagkcgpffpaaGreatDoorShelf
import Derived.Shelf.Strings.SlTrimAscii
import Derived.Shelf.Strings.Builder1
import Derived.WalkKit
import Derived.Shelf.Strings.Builder2
section
set_option maxHeartbeats 4000000
set_option maxRecDepth 100000
namespace Go.Proofs.C06
open Go Go.RowKit Go.Vc Go.Am
def nG:Nat:=13
structure Gd(w:World):Prop where
 maxLen:∃m,w.cell? ⟨2,0,none⟩=some (.int .i64 m)
 pow:Lib.TabIs Tryz.prog w "internal/strconv.uint64pow10" .u64 Lib.pow10Tab
def gl:Glob:=[(3,.agg [.int .u8 36,.int .u8 43,.int .u8 45])]
def GP(R:Ro):Prop:=(∀w:World,(∀b o,R b=some o→w.heap[b]? =some o)→Gd w)∧GlobOK gl R
theorem gd(R:Ro)(w:World)(h:GP R)(hw:∀b o,R b=some o→w.heap[b]? =some o):Gd w:=h.1 w hw
theorem zxa(R:Ro)(h:GP R):GlobOK gl R:=h.2
theorem znO:Stays GP:=fun R R' hs h=>⟨fun w hw=>h.1 w fun b o hb=>hw b o (hs b o hb),fun g=>zl hs _ _ (fun i hi=>by rw[ZE]at hi;cases hi) (h.2 g)⟩
theorem mixed:Tryz.prog.follows .mixedOrders=true:=Tryz.checked.mixed
theorem bas:Bas Tryz.prog GP gl:=⟨mixed,zxa,znO⟩
def jt(vs:List AV)(h:Heap):Option (List UInt8×List UInt8):=match vs,h with
 |[.str q0,.str q1],[]=>some (q0,q1)
 |_,_=>none
theorem yC(vs:List AV)(h:Heap)(x:List UInt8×List UInt8)(hx:jt vs h=some x):vs=[.str x.1,.str x.2]∧h=[]:=by unfold jt at hx;split at hx<;>cases hx;exact⟨rfl,rfl⟩
def Y7(_N:Nat):Con:=Con6.c ⟨104,List UInt8×List UInt8,Bool,jt,fun x=>zkg x.1 x.2,fun _ r=>⟨.bool r,[]⟩⟩
theorem Wp(N:Nat):SoundC Tryz.prog GP (Y7 N):=zK gd (fun x=>[.str x.1,.str x.2]) (fun x=>[.string (bs x.1),.string (bs x.2)]) (fun r=>.bool r) (by kernel_rfl) yC (fun _=>rfl) (fun _=>rfl) fun x r w hG h=>by cases h;exact (Tryz.strings_HasPrefix (bs x.1) (bs x.2) w).mono fun e w' ⟨h1,h2⟩=>⟨h1,.of_eq h2⟩
def Y9(_N:Nat):Con:=Con6.c ⟨178,List UInt8×List UInt8,List UInt8×Bool,jt,fun x=>zkj x.1 x.2,fun _ r=>⟨.tup [.str r.1,.bool r.2],[]⟩⟩
theorem Wr(N:Nat):SoundC Tryz.prog GP (Y9 N):=zK gd (fun x=>[.str x.1,.str x.2]) (fun x=>[.string (bs x.1),.string (bs x.2)]) (fun r=>.tuple #[.string (bs r.1),.bool r.2]) (by kernel_rfl) yC (fun _=>rfl) (fun _=>rfl) fun x r w hG h=>by cases h;exact (Tryz.strings_CutPrefix (bs x.1) (bs x.2) w).mono fun e w' ⟨h1,h2⟩=>⟨h1,.of_eq h2⟩
def Y8(_N:Nat):Con:=Con6.c ⟨181,List UInt8×List UInt8,List UInt8×Bool,jt,fun x=>zki x.1 x.2,fun _ r=>⟨.tup [.str r.1,.bool r.2],[]⟩⟩
theorem Wq(N:Nat):SoundC Tryz.prog GP (Y8 N):=zK gd (fun x=>[.str x.1,.str x.2]) (fun x=>[.string (bs x.1),.string (bs x.2)]) (fun r=>.tuple #[.string (bs r.1),.bool r.2]) (by kernel_rfl) yC (fun _=>rfl) (fun _=>rfl) fun x r w hG h=>by obtain⟨hc,h⟩:=zn h;cases h;exact (Tryz.strings_CutSuffix (bs x.1) (bs x.2) w (by rw[z7];exact q6 hc)).mono fun e w' ⟨h1,h2⟩=>⟨h1,.of_eq h2⟩
def Yd(_N:Nat):Con:=Con6.c ⟨118,List UInt8×List UInt8,List UInt8,jt,fun x=>zil x.1 x.2,fun _ r=>⟨.str r,[]⟩⟩
theorem Vo(N:Nat):SoundC Tryz.prog GP (Yd N):=zK gd (fun x=>[.str x.1,.str x.2]) (fun x=>[.string (bs x.1),.string (bs x.2)]) (fun r=>.string (bs r)) (by kernel_rfl) yC (fun _=>rfl) (fun _=>rfl) fun x r w hG h=>by obtain⟨hc,h⟩:=zn h;cases h;exact (Tryz.strings_TrimSuffix (bs x.1) (bs x.2) w (by rw[z7];exact q6 hc)).mono fun e w' ⟨h1,h2⟩=>⟨h1,.of_eq h2⟩
def Ye(_N:Nat):Con:=Con6.c ⟨114,List UInt8×List UInt8,List UInt8,jt,fun x=>zim x.1 x.2,fun _ r=>⟨.str r,[]⟩⟩
theorem Vp(N:Nat):SoundC Tryz.prog GP (Ye N):=zK gd (fun x=>[.str x.1,.str x.2]) (fun x=>[.string (bs x.1),.string (bs x.2)]) (fun r=>.string (bs r)) (by kernel_rfl) yC (fun _=>rfl) (fun _=>rfl) fun x r w hG h=>by cases h;exact (Tryz.strings_TrimPrefix (bs x.1) (bs x.2) w).mono fun e w' ⟨h1,h2⟩=>⟨h1,.of_eq h2⟩
def zdD(vs:List AV)(h:Heap):Option (List UInt8×Int):=match vs,h with
 |[.str q0,.int .u8 q1],[]=>some (q0,q1)
 |_,_=>none
theorem zvM(vs:List AV)(h:Heap)(x:List UInt8×Int)(hx:zdD vs h=some x):vs=[.str x.1,.int .u8 x.2]∧h=[]:=by unfold zdD at hx;split at hx<;>cases hx;exact⟨rfl,rfl⟩
def Y5(_N:Nat):Con:=Con6.c ⟨196,List UInt8×Int,Int,zdD,fun x=>zc3 x.1 x.2,fun _ r=>⟨.int .i64 r,[]⟩⟩
theorem Wo(N:Nat):SoundC Tryz.prog GP (Y5 N):=zK gd (fun x=>[.str x.1,.int .u8 x.2]) (fun x=>[.string (bs x.1),.int .u8 x.2]) (fun r=>.int .i64 r) (by kernel_rfl) zvM (fun _=>rfl) (fun _=>rfl) fun x r w hG h=>by cases h;exact (Tryz.strings_IndexByte (bs x.1) x.2 w).mono fun e w' ⟨h1,h2⟩=>⟨h1,.of_eq h2⟩
def zir(_N:Nat):Con:=Con6.c ⟨115,List UInt8×List UInt8,List UInt8×List UInt8×Bool,jt,fun x=>zyg x.1 x.2,fun _ r=>⟨.tup [.str r.1,.str r.2.1,.bool r.2.2],[]⟩⟩
theorem zkh(N:Nat):SoundC Tryz.prog GP (zir N):=zK gd (fun x=>[.str x.1,.str x.2]) (fun x=>[.string (bs x.1),.string (bs x.2)]) (fun r=>.tuple #[.string (bs r.1),.string (bs r.2.1),.bool r.2.2]) (by kernel_rfl) yC (fun _=>rfl) (fun _=>rfl) fun x r w hG h=>by obtain⟨hc,h⟩:=zn h;cases h;obtain⟨m,hm⟩:=hG.maxLen;exact (Tryz.strings_Cut (bs x.1) (bs x.2) m w (by rw[z7];exact q6 hc) hm).mono fun e w' ⟨h1,n,h2⟩=>⟨h1,h2▸Keeps.drewN _ _⟩
def zc5(_N:Nat):Con:=Con6.c ⟨125,List UInt8×List UInt8,Int,jt,fun x=>zw1 x.1 x.2,fun _ r=>⟨.int .i64 r,[]⟩⟩
theorem zgQ(N:Nat):SoundC Tryz.prog GP (zc5 N):=zK gd (fun x=>[.str x.1,.str x.2]) (fun x=>[.string (bs x.1),.string (bs x.2)]) (fun r=>.int .i64 r) (by kernel_rfl) yC (fun _=>rfl) (fun _=>rfl) fun x r w hG h=>by
 obtain⟨s,p⟩:=x
 match p,h with
 |[c],h=>cases h;exact (Tryz.strings_Count_one (bs s) c w).mono fun e w' ⟨h1,h2⟩=>⟨h1,.of_eq h2⟩
def Xe(_N:Nat):Con:=Con6.c ⟨263,List UInt8×List UInt8,Bool,jt,fun x=>zm4 x.1 x.2,fun _ r=>⟨.bool r,[]⟩⟩
theorem zas(N:Nat):SoundC Tryz.prog GP (Xe N):=zK gd (fun x=>[.str x.1,.str x.2]) (fun x=>[.string (bs x.1),.string (bs x.2)]) (fun r=>.bool r) (by kernel_rfl) yC (fun _=>rfl) (fun _=>rfl) fun x r w hG h=>by
 obtain⟨s,p⟩:=x
 match p,h with
 |[c],h=>cases h;exact (Tryz.strings_Contains_one (bs s) c w).mono fun e w' ⟨h1,h2⟩=>⟨h1,.of_eq h2⟩
def Xd(_N:Nat):Con:=Con6.c ⟨69,List UInt8×List UInt8,List UInt8,jt,fun x=>zes x.1 x.2,fun _ r=>⟨.str r,[]⟩⟩
theorem Yf(N:Nat):SoundC Tryz.prog GP (Xd N):=zK gd (fun x=>[.str x.1,.str x.2]) (fun x=>[.string (bs x.1),.string (bs x.2)]) (fun r=>.string (bs r)) (by kernel_rfl) yC (fun _=>rfl) (fun _=>rfl) fun x r w hG h=>by obtain⟨hc,h⟩:=zn h;obtain⟨hc,ha⟩:=Q5 hc;cases h;exact (Any.strings_TrimLeft_laid Tryz.lays161 (by kernel_rfl) (bs x.1) (bs x.2) w (by rw[z7];exact q6 hc) (Qq ha)).mono fun e w' ⟨h1,h2⟩=>⟨h1,.of_below h2⟩
def Y1(_N:Nat):Con:=Con6.c ⟨180,List UInt8×List UInt8,List UInt8,jt,fun x=>zkd x.1 x.2,fun _ r=>⟨.str r,[]⟩⟩
theorem Wm(N:Nat):SoundC Tryz.prog GP (Y1 N):=zK gd (fun x=>[.str x.1,.str x.2]) (fun x=>[.string (bs x.1),.string (bs x.2)]) (fun r=>.string (bs r)) (by kernel_rfl) yC (fun _=>rfl) (fun _=>rfl) fun x r w hG h=>by obtain⟨hc,h⟩:=zn h;obtain⟨hc,ha⟩:=Q5 hc;obtain⟨hc2,ha⟩:=Q5 ha;cases h;exact (Any.strings_TrimRight_laid Tryz.lays162 (by kernel_rfl) (bs x.1) (bs x.2) w (by rw[z7];exact q6 hc) (by rw[z7];exact q6 hc2) (Qq ha)).mono fun e w' ⟨h1,h2⟩=>⟨h1,.of_below h2⟩
def zer(_N:Nat):Con:=Con6.c ⟨85,List UInt8×List UInt8,List UInt8,jt,fun x=>zq8 x.1 x.2,fun _ r=>⟨.str r,[]⟩⟩
theorem W4(N:Nat):SoundC Tryz.prog GP (zer N):=zK gd (fun x=>[.str x.1,.str x.2]) (fun x=>[.string (bs x.1),.string (bs x.2)]) (fun r=>.string (bs r)) (by kernel_rfl) yC (fun _=>rfl) (fun _=>rfl) fun x r w hG h=>by obtain⟨hc,h⟩:=zn h;obtain⟨hc,ha⟩:=Q5 hc;obtain⟨hc2,ha⟩:=Q5 ha;cases h;exact (Any.strings_Trim_laid Tryz.lays160 (by kernel_rfl) (bs x.1) (bs x.2) w (by rw[z7];exact q6 hc) (by rw[z7];exact q6 hc2) (Qq ha)).mono fun e w' ⟨h1,h2⟩=>⟨h1,.of_below h2⟩
def Y6(_N:Nat):Con:=Con6.c ⟨98,List UInt8×List UInt8,Bool,jt,fun x=>zc4 x.1 x.2,fun _ r=>⟨.bool r,[]⟩⟩
theorem Jt(N:Nat):SoundC Tryz.prog GP (Y6 N):=zK gd (fun x=>[.str x.1,.str x.2]) (fun x=>[.string (bs x.1),.string (bs x.2)]) (fun r=>.bool r) (by kernel_rfl) yC (fun _=>rfl) (fun _=>rfl) fun x r w hG h=>by obtain⟨hc,h⟩:=zn h;cases h;exact (Tryz.strings_HasSuffix (bs x.1) (bs x.2) w (by rw[z7];exact q6 hc)).mono fun e w' ⟨h1,h2⟩=>⟨h1,.of_eq h2⟩
def zdB(vs:List AV)(h:Heap):Option (List UInt8×Int):=match vs,h with
 |[.str q0,.int .i32 q1],[]=>some (q0,q1)
 |_,_=>none
theorem zvK(vs:List AV)(h:Heap)(x:List UInt8×Int)(hx:zdB vs h=some x):vs=[.str x.1,.int .i32 x.2]∧h=[]:=by unfold zdB at hx;split at hx<;>cases hx;exact⟨rfl,rfl⟩
def Z0(_N:Nat):Con:=Con6.c ⟨157,List UInt8×Int,Bool,zdB,fun x=>zdQ x.1 x.2,fun _ r=>⟨.bool r,[]⟩⟩
theorem Q3(N:Nat):SoundC Tryz.prog GP (Z0 N):=zK gd (fun x=>[.str x.1,.int .i32 x.2]) (fun x=>[.string (bs x.1),.int .i32 x.2]) (fun r=>.bool r) (by kernel_rfl) zvK (fun _=>rfl) (fun _=>rfl) fun x r w hG h=>by obtain⟨hc,h⟩:=zn h;obtain⟨h1,h2⟩:=Q5 hc;cases h;exact (Tryz.strings_ContainsRune_ascii (bs x.1) x.2 w (q6 h1) (q6 h2)).mono fun e w' ⟨h1,h2⟩=>⟨h1,.of_eq h2⟩
def Ju(_N:Nat):Con:=Con6.c ⟨177,List UInt8×List UInt8,Bool,jt,fun x=>zgR x.1 x.2,fun _ r=>⟨.bool r,[]⟩⟩
theorem XA(N:Nat):SoundC Tryz.prog GP (Ju N):=zK gd (fun x=>[.str x.1,.str x.2]) (fun x=>[.string (bs x.1),.string (bs x.2)]) (fun r=>.bool r) (by kernel_rfl) yC (fun _=>rfl) (fun _=>rfl) fun x r w hG h=>by obtain⟨hc,h⟩:=zn h;obtain⟨h1,hc⟩:=Q5 hc;obtain⟨h2,hc⟩:=Q5 hc;obtain⟨h3,h4⟩:=Q5 hc;cases h;exact (Tryz.strings_ContainsAny_laid (bs x.1) (bs x.2) w (by rw[z7];exact q6 h1) (by rw[z7];exact q6 h2) (Qq h3) (Qq h4)).mono fun e w' ⟨h1,h2⟩=>⟨h1,.of_below h2⟩
def zhq(vs:List AV)(h:Heap):Option (Int):=match vs,h with
 |[.int .i32 q0],[]=>some q0
 |_,_=>none
theorem zxo(vs:List AV)(h:Heap)(x:Int)(hx:zhq vs h=some x):vs=[.int .i32 x]∧h=[]:=by unfold zhq at hx;split at hx<;>cases hx;exact⟨rfl,rfl⟩
def Vq(_N:Nat):Con:=Con6.c ⟨198,Int,Int,zhq,fun x=>zq9 x,fun _ r=>⟨.int .i64 r,[]⟩⟩
theorem zcZ(N:Nat):SoundC Tryz.prog GP (Vq N):=zK gd (fun x=>[.int .i32 x]) (fun x=>[.int .i32 x]) (fun r=>.int .i64 r) (by kernel_rfl) zxo (fun _=>rfl) (fun _=>rfl) fun x r w hG h=>by cases h;exact (Tryz.utf8_RuneLen x w).mono fun e w' ⟨h1,h2⟩=>⟨h1,.of_eq h2⟩
def zdC(vs:List AV)(h:Heap):Option (List UInt8×Int):=match vs,h with
 |[.str q0,.int .i64 q1],[]=>some (q0,q1)
 |_,_=>none
theorem zvL(vs:List AV)(h:Heap)(x:List UInt8×Int)(hx:zdC vs h=some x):vs=[.str x.1,.int .i64 x.2]∧h=[]:=by unfold zdC at hx;split at hx<;>cases hx;exact⟨rfl,rfl⟩
def W6(_N:Nat):Con:=Con6.c ⟨66,List UInt8×Int,List UInt8,zdC,fun x=>ZY x.1 x.2,fun _ r=>⟨.str r,[]⟩⟩
theorem qF(N:Nat):SoundC Tryz.prog GP (W6 N):=zK gd (fun x=>[.str x.1,.int .i64 x.2]) (fun x=>[.string (bs x.1),.int .i64 x.2]) (fun r=>.string (bs r)) (by kernel_rfl) zvL (fun _=>rfl) (fun _=>rfl) fun x r w hG h=>by
 obtain⟨hc,h⟩:=zn h;obtain⟨h1,hc⟩:=Q5 hc;obtain⟨h2,h3⟩:=Q5 hc;have h1:=q6 h1;have h2:=q6 h2;have h3:=q6 h3;cases h;obtain⟨s,c⟩:=x;obtain⟨k,rfl⟩:∃k:Nat,c=k:=⟨c.toNat,by simp only at h1;omega⟩
 simp only[Int.toNat_natCast]at*
 exact (Tryz.strings_Repeat (bs s) k w (by omega) (by rw[z7];exact h3)).mono fun e w' ⟨h1,h2⟩=>⟨h1,.of_below h2⟩
def zhr(vs:List AV)(h:Heap):Option (Int):=match vs,h with
 |[.int .i64 q0],[]=>some q0
 |_,_=>none
theorem zxp(vs:List AV)(h:Heap)(x:Int)(hx:zhr vs h=some x):vs=[.int .i64 x]∧h=[]:=by unfold zhr at hx;split at hx<;>cases hx;exact⟨rfl,rfl⟩
def zeu(_N:Nat):Con:=Con6.c ⟨101,Int,List UInt8,zhr,fun x=>zvY x,fun _ r=>⟨.str r,[]⟩⟩
theorem W7(N:Nat):SoundC Tryz.prog GP (zeu N):=zK gd (fun x=>[.int .i64 x]) (fun x=>[.int .i64 x]) (fun r=>.string (bs r)) (by kernel_rfl) zxp (fun _=>rfl) (fun _=>rfl) fun x r w hG h=>by obtain⟨hc,h⟩:=zn h;obtain⟨h1,h2⟩:=Q5 hc;cases h;exact (Tryz.strconv_Itoa x (q6 h1) (q6 h2) w hG.pow).mono fun e w' ⟨h1,k,os,h2⟩=>⟨h1,h2▸(Keeps.drewN _ _).trans (Keeps.grow _ _)⟩
def zhp(vs:List AV)(h:Heap):Option (List UInt8):=match vs,h with
 |[.str q0],[]=>some q0
 |_,_=>none
theorem zxn(vs:List AV)(h:Heap)(x:List UInt8)(hx:zhp vs h=some x):vs=[.str x]∧h=[]:=by unfold zhp at hx;split at hx<;>cases hx;exact⟨rfl,rfl⟩
def zev(_N:Nat):Con:=Con6.c ⟨230,List UInt8,Int,zhp,fun x=>zxP x,fun _ r=>⟨.tup [.int .i64 r,.nili],[]⟩⟩
theorem ziv(N:Nat):SoundC Tryz.prog GP (zev N):=zK gd (fun x=>[.str x]) (fun x=>[.string (bs x)]) (fun r=>.tuple #[.int .i64 r,.nilIface]) (by kernel_rfl) zxn (fun _=>rfl) (fun _=>rfl) fun x r w hG h=>by obtain⟨hc,h⟩:=zn h;exact (Tryz.strconv_Atoi (bs x) r (by rw[z7];exact q6 hc) h w).mono fun e w' ⟨h1,t,h2⟩=>⟨h1,by subst h2;exact .of_below (Lib.bytesWorld_below _ _ _)⟩
end Go.Proofs.C06
end
section
set_option maxHeartbeats 4000000
set_option maxRecDepth 100000
namespace Go.Proofs.C06
open Go Go.RowKit Go.Vc Go.Am
theorem zvB(b:Nat)(w:World)(h0:w.cell? ⟨b,0,none⟩=some (.pointer (some ⟨b,0,none⟩))):
  Calls Tryz.prog 147 #[.pointer (some ⟨b,0,none⟩)] w fun e w'=>e=.returned (.tuple #[])∧w'=w:=by
 have hsz:∃j,Tryz.prog.info? 172=some j:=⟨_,rfl⟩
 obtain⟨j,hj⟩:=hsz
 go_enter Tryz.func147,Tryz.ntmps147
 go_wp2
 rw[Lib.run_neq_ptr_same w _ (by kernel_rfl) hj]
 go_wp2
 go_end0
 exact⟨rfl,rfl⟩
theorem zrL(b:Nat)(w:World)(h0:w.cell? ⟨b,0,none⟩=some (.pointer none))(hsh:w.shape? b=some (172,2))(hfz:w.frozen? ⟨b,0,none⟩=false):
  Calls Tryz.prog 147 #[.pointer (some ⟨b,0,none⟩)] w fun e w'=>e=.returned (.tuple #[])∧w'=w.setCell ⟨b,0,none⟩ (.pointer (some ⟨b,0,none⟩)):=by
 have hsz:∃j,Tryz.prog.info? 172=some j∧j.size=2:=⟨_,rfl,by kernel_rfl⟩
 obtain⟨j,hj,hjs⟩:=hsz;have t55:Tryz.prog.underlying 170=some (.pointer 172):=by kernel_rfl
 have t109:Tryz.prog.underlying 292=some (.unsafePointer):=by kernel_rfl
 go_enter Tryz.func147,Tryz.ntmps147
 go_wp2
 rw[Lib.run_to_unsafe w ⟨b,0,none⟩ t55 t109 hj (by rw[hjs];decide) hsh (Nat.zero_lt_succ 1)];simp only[Result.andThen];rw[Oper.upon_value]
 go_wp2
 rw[run_callFunc_extern Tryz.func207 (by kernel_rfl) (by kernel_rfl) (by kernel_rfl) (e:=Extern.AbiNoEscape.same) (by kernel_rfl)];rw[Lib.run_noEscape];simp only[Result.andThen];rw[Oper.upon_value]
 go_wp2
 rw[Lib.run_from_unsafe w ⟨b,0,none⟩ t109 t55 hj hsh (by kernel_rfl)];simp only[Result.andThen];rw[Oper.upon_value]
 go_wp2
 go_end0
 exact⟨rfl,rfl⟩
def XJ(vs:List AV)(h:Heap):Option (AV×Heap):=match vs,h with
 |[.ptr 0 0],some (.cells 172 [.ptr 0 0,v])::h=>some (v,h)
 |_,_=>none
def Qn(vs:List AV)(h:Heap):Option (AV×Heap):=match vs,h with
 |[.ptr 0 0],some (.cells 172 [.nilp,v])::h=>some (v,h)
 |_,_=>none
def zds(_N:Nat):Con:=Con6.c ⟨147,AV×Heap,Unit,XJ,fun _=>some (),fun x _=>⟨.tup [],some (.cells 172 [.ptr 0 0,x.1])::x.2⟩⟩
def zaj(_N:Nat):Con:=Con6.c ⟨147,AV×Heap,Unit,Qn,fun _=>some (),fun x _=>⟨.tup [],some (.cells 172 [.ptr 0 0,x.1])::x.2⟩⟩
theorem zhl(N:Nat):SoundC Tryz.prog GP (zds N):=by
 intro args h x r hd hs;have hd:XJ args h=some x:=hd;unfold XJ at hd;split at hd
 ·rename_i v hp hq;cases hd;refine⟨jk (by kernel_rfl),fun R G w vs hGP W hargs=>?_⟩;have F:=JA W;obtain⟨r0,hr,hlk,hv0,hfp,cs,hcs,hrel⟩:=F.look_live (i:=0) rfl;obtain⟨u,us,rfl,⟨f,hf,_,rfl⟩,hus⟩:=hargs;have hus:us=[]:=hus;subst hus;rw[hlk]at hf;cases hf;obtain⟨c0,cr,rfl,⟨f,hf,_,rfl⟩,_⟩:=hrel;rw[hlk]at hf;cases hf;refine(zvB r0.b w (by simp[World.cell?,hcs])).mono fun e w' ⟨he,hw⟩=>?_
  subst hw;exact⟨_,R,G,he,W,F.since,⟨[],rfl,rfl⟩⟩
 ·cases hd
theorem zdV(N:Nat):SoundC Tryz.prog GP (zaj N):=by
 intro args h x r hd hs;have hd:Qn args h=some x:=hd;unfold Qn at hd;split at hd
 ·rename_i v hp hq;cases hd;refine⟨jk (by kernel_rfl),fun R G w vs hGP W hargs=>?_⟩;have F:=JA W;obtain⟨r0,hr,hlk,hv0,hfp,cs,hcs,hrel⟩:=F.look_live (i:=0) rfl;obtain⟨u,us,rfl,⟨f,hf,_,rfl⟩,hus⟩:=hargs;have hus:us=[]:=hus;subst hus;rw[hlk]at hf;cases hf;obtain⟨c0,cr,rfl,h0,c1,cr1,rfl,h1,hcr⟩:=hrel;have hcr:cr1=[]:=hcr;subst hcr;have h0:c0=.pointer none:=h0;subst h0;refine(zrL r0.b w (by simp[World.cell?,hcs]) (by simp[World.shape?,hcs]) (by simp[World.frozen?,hcs])).mono fun e w' ⟨he,hw⟩=>?_
  subst hw;obtain⟨s1,s2⟩:=Yx (o:=0) (v:=.pointer (some ⟨r0.b,0,none⟩)) hcs;obtain⟨F',_⟩:=F.write (i:=0) (ao:=.cells 172 [.ptr 0 0,v]) rfl hr rfl hfp s2 (fun L' hL=>⟨hv0,hfp,_,s1,_,_,rfl,⟨_,hL _ _ hlk,hv0,rfl⟩,_,_,rfl,zl (fun _ _ h=>h) _ _ (fun j _ f hf=>hL j f hf) h1,rfl⟩);exact⟨_,R,G,he,F'.wrel,F'.since,⟨[],rfl,rfl⟩⟩
 ·cases hd
end Go.Proofs.C06
end
section
set_option maxHeartbeats 2000000
set_option maxRecDepth 100000
namespace Go.Proofs.C06
open Go Go.RowKit Go.Vc Go.Am
theorem zr1(b g cap:Nat)(p:Value)(cur:Array Value)(fr:Nat×Nat)(l:List UInt8)(w:World)(hl0:l≠[])(hbk:w.heap[b]? =some (.cells #[p,.slice (some ⟨g,0,none⟩) l.length cap] 172 (0,0)))
  (hg:w.heap[g]? =some (.cells cur 5 fr)) (hn:l.length≤cap) (hcs:l.length≤cur.size) (hsz:l.length≤9223372036854775807) (hcell:∀j x,l[j]? =some x→w.cell? ((⟨g,0,none⟩:Addr).add j)=some (.int .u8 x.toNat)):
  Calls Tryz.prog 97 #[.pointer (some ⟨b,0,none⟩)] w fun e w'=>e=.returned (.string ⟨l.toArray⟩)∧w'=w.drew.freeze ⟨g,0,none⟩ l.length:=by
 have hlen:l.length≠0:=by simpa using hl0
 have mixed:=Tryz.checked.mixed;have c1:w.drew.cell? ⟨b,1,none⟩=some (.slice (some ⟨g,0,none⟩) l.length cap):=by have:w.drew.heap[b]? =some (.cells #[p,.slice (some ⟨g,0,none⟩) l.length cap] 172 (0,0)):=hbk;rw[Lib.cell_of_heap this];rfl
 have hSD:(Builtin.unsafeSliceData_ #[66] 245 #[.slice (some ⟨g,0,none⟩) l.length cap]).run Tryz.prog w.drew=.ok (.pointer (some ⟨g,0,none⟩)) w.drew:=
  Lib.run_unsafeSliceData_row _ _ _ _ _ _ (by omega)
 have hUS:(Builtin.unsafeString_ #[245,3] 9 #[.pointer (some ⟨g,0,none⟩),.int .i64 l.length]).run Tryz.prog w.drew=.ok (.string ⟨l.toArray⟩) (w.drew.freeze ⟨g,0,none⟩ l.length):=by refine Lib.run_unsafeString_row w.drew 245 3 9 5 (by kernel_rfl) (by kernel_rfl) g cur.size (by have hg':w.drew.heap[g]? =some (.cells cur 5 fr):=hg;simp[World.shape?,hg']) l hl0 hcs hsz hcell
 go_enter Tryz.func97,Tryz.ntmps97
 go_wp2
 go_region_o
 all_goals (go_wp2;go_ret;exact⟨rfl,rfl⟩)
theorem zk3(b:Nat)(p:Value)(w:World)(hbk:w.heap[b]? =some (.cells #[p,.slice none 0 0] 172 (0,0))):
  Calls Tryz.prog 97 #[.pointer (some ⟨b,0,none⟩)] w fun e w'=>e=.returned (.string ⟨#[]⟩)∧w'=w.drew:=by
 have mixed:=Tryz.checked.mixed;have hUS:(Builtin.unsafeString_ #[245,3] 9 #[.pointer none,.int .i64 0]).run Tryz.prog w.drew=.ok (.string .empty) w.drew:=Lib.run_unsafeString_none w.drew _ _ _ _;have c1:w.drew.cell? ⟨b,1,none⟩=some (.slice none 0 0):=by have:w.drew.heap[b]? =some (.cells #[p,.slice none 0 0] 172 (0,0)):=hbk;rw[Lib.cell_of_heap this];rfl
 have hSD:(Builtin.unsafeSliceData_ #[66] 245 #[.slice none 0 0]).run Tryz.prog w.drew=.ok (.pointer none) w.drew:=rfl
 go_enter Tryz.func97,Tryz.ntmps97
 go_wp2
 go_region_o
 all_goals (go_wp2;go_ret;exact⟨rfl,rfl⟩)
theorem znM(b g cap:Nat)(p:Value)(w:World)(hc0:cap≠0)(hbk:w.heap[b]? =some (.cells #[p,.slice (some ⟨g,0,none⟩) 0 cap] 172 (0,0))):
  Calls Tryz.prog 97 #[.pointer (some ⟨b,0,none⟩)] w fun e w'=>e=.returned (.string ⟨#[]⟩)∧w'=w.drew:=by
 have mixed:=Tryz.checked.mixed;have hUS:(Builtin.unsafeString_ #[245,3] 9 #[.pointer (some ⟨g,0,none⟩),.int .i64 0]).run Tryz.prog w.drew=.ok (.string .empty) w.drew:=Lib.run_unsafeString_none w.drew _ _ _ _;have c1:w.drew.cell? ⟨b,1,none⟩=some (.slice (some ⟨g,0,none⟩) 0 cap):=by have:w.drew.heap[b]? =some (.cells #[p,.slice (some ⟨g,0,none⟩) 0 cap] 172 (0,0)):=hbk;rw[Lib.cell_of_heap this];rfl
 have hSD:(Builtin.unsafeSliceData_ #[66] 245 #[.slice (some ⟨g,0,none⟩) 0 cap]).run Tryz.prog w.drew=.ok (.pointer (some ⟨g,0,none⟩)) w.drew:=
  Lib.run_unsafeSliceData_row _ _ _ _ _ _ hc0
 clear hc0
 go_enter Tryz.func97,Tryz.ntmps97
 go_wp2
 go_region_o
 all_goals (go_wp2;go_ret;exact⟨rfl,rfl⟩)
theorem zjf(b g:Nat)(p:Value)(cur:Array Value)(fr:Nat×Nat)(w:World)(hbk:w.heap[b]? =some (.cells #[p,.slice (some ⟨g,0,none⟩) 0 0] 172 (0,0)))(hg:w.heap[g]? =some (.cells cur 5 fr)):
  Calls Tryz.prog 97 #[.pointer (some ⟨b,0,none⟩)] w fun e w'=>e=.returned (.string ⟨#[]⟩)∧Vc.Keeps [] w w':=by
 have mixed:=Tryz.checked.mixed;have hUS:∀W q,(Builtin.unsafeString_ #[245,3] 9 #[.pointer q,.int .i64 0]).run Tryz.prog W=.ok (.string .empty) W:=fun W q=>Lib.run_unsafeString_none W _ _ _ _
 have hlt:b<w.heap.size:=(Array.getElem?_eq_some_iff.1 hbk).1;have c1:w.drew.cell? ⟨b,1,none⟩=some (.slice (some ⟨g,0,none⟩) 0 0):=by have:w.drew.heap[b]? =some (.cells #[p,.slice (some ⟨g,0,none⟩) 0 0] 172 (0,0)):=hbk;rw[Lib.cell_of_heap this];rfl
 have hSD:(Builtin.unsafeSliceData_ #[66] 245 #[.slice (some ⟨g,0,none⟩) 0 0]).run Tryz.prog w.drew=.ok (.pointer (some ⟨w.drew.heap.size,0,none⟩)) (w.drew.alloc (.view ⟨g,0,none⟩ 5)):=
  Lib.run_unsafeSliceData_zero w.drew _ _ 5 (by kernel_rfl) ⟨g,0,none⟩ 0 (5,cur.size) (by have hg':w.drew.heap[g]? =some (.cells cur 5 fr):=hg;simp[World.shape?,hg'])
 have c2:(w.drew.alloc (.view ⟨g,0,none⟩ 5)).cell? ⟨b,1,none⟩=some (.slice (some ⟨g,0,none⟩) 0 0):=by have:(w.drew.alloc (.view ⟨g,0,none⟩ 5)).heap[b]? =_:=(Lib.alloc_old w.drew _ b hlt).trans hbk;rw[Lib.cell_of_heap this];rfl
 have c3:(w.alloc (.view ⟨g,0,none⟩ 5)).drew.cell? ⟨b,1,none⟩=some (.slice (some ⟨g,0,none⟩) 0 0):=c2;have c0:w.cell? ⟨b,1,none⟩=some (.slice (some ⟨g,0,none⟩) 0 0):=c1
 go_enter Tryz.func97,Tryz.ntmps97
 go_wp2
 go_region_o
 all_goals (go_wp2;go_ret;exact⟨rfl,.of_below ((Below.drew (Below.refl _ w)).alloc (Nat.le_refl _) _)⟩)
theorem zxv{R:Ro}{G:List Res}{w w':World}{v:AV}{l:List UInt8}{r1:Res}(W:WRel R G [some (.cells 172 [.ptr 0 0,v]),some (.bytes 5 l)] w)(hr1:G[1]? =some r1)(k:Keeps r1.fp w w'):
  WRel R G [some (.cells 172 [.ptr 0 0,.undef]),none] w'∧Since ⟨R,Am.look G [some (.cells 172 [.ptr 0 0,v]),some (.bytes 5 l)],fpsAll G [some (.cells 172 [.ptr 0 0,v]),some (.bytes 5 l)],w,2⟩ R G [some (.cells 172 [.ptr 0 0,.undef]),none] w':=by
 have F:=JA W;obtain⟨r0,hr0,hlk0,hv0,hfp0,cs,hcs,hrel⟩:=F.look_live (i:=0) rfl;have two:∀{h:Heap}{i:Nat},h.length=2→i∉[0,1]→¬live h i:=fun hl hi hlv=>by have:=jh hlv;simp at hi;omega
 have dead1:¬live [some (.cells 172 [.ptr 0 0,.undef]),none] 1:=fun⟨o,ho⟩=>by simp[hget]at ho
 refine yv (G':=G) (h':=[some (.cells 172 [.ptr 0 0,.undef]),none]) (A:=[0,1]) (Fr:=fun _=>False) F.wrel F.since k
  (fun b hb=>.inr ⟨1,r1,by simp,⟨_,rfl⟩,hr1,hb⟩) (fun _ h=>h.elim) (by simpa using W.len) (by simp) (fun i hi hl=>(two rfl hi hl).elim)
  (fun i o hi ho=>(two rfl hi ⟨o,ho⟩).elim) (fun _ _ h=>h) (fun b o h1 h2=>by rw[h1]at h2;cases h2)
  (fun i o r hi ho hr=>?_) (fun i j ri rj hij hi hj hli hlj=>?_) (fun i hi hA hl=>?_)
 ·rcases List.mem_cons.1 hi with rfl|hi
  ·have ho:some (AO.cells 172 [.ptr 0 0,.undef])=some o:=ho;cases ho;rw[hr0]at hr;cases hr;obtain⟨c0,cr,rfl,⟨f,hf,hfv,rfl⟩,c1,cr1,rfl,h1,hcr⟩:=hrel;have hcr:cr1=[]:=hcr;subst hcr;rw[hlk0]at hf;cases hf;refine⟨⟨hv0,hfp0,[.pointer (some ⟨r0.b,0,none⟩),c1],?_,_,_,rfl,⟨_,zH (o:=.cells 172 [.ptr 0 0,.undef]) rfl hr0,hv0,rfl⟩,_,_,rfl,trivial,rfl⟩,fun b hb=>⟨W.sepR 0 r0 ⟨_,rfl⟩ hr0 b hb,.inr (.inl ⟨0,r0,by simp,⟨_,rfl⟩,hr0,hb⟩)⟩⟩;rw[k.block r0.b (zG hcs) (fun hm=>W.sep 0 1 r0 r1 (by simp) ⟨_,rfl⟩ ⟨_,rfl⟩ hr0 hr1 r0.b (by rw[hfp0];simp) hm)];exact hcs
  ·have hi:i=1:=by simpa using hi
   subst hi;exact (dead1 ⟨o,ho⟩).elim
 ·have z:∀x,x∈[0,1]→live [some (.cells 172 [.ptr 0 0,.undef]),none] x→x=0:=by
   intro x hx hl;rcases List.mem_cons.1 hx with rfl|hx
   ·rfl
   ·have hx:x=1:=by simpa using hx
    subst hx;exact (dead1 hl).elim
  exact (hij ((z i hi hli).trans (z j hj hlj).symm)).elim
 ·rcases List.mem_cons.1 hA with rfl|hA
  ·show Am.look G _ 0=Am.look G _ 0;rw[zH (o:=.cells 172 [.ptr 0 0,.undef]) rfl hr0,zH (o:=.cells 172 [.ptr 0 0,v]) rfl hr0];rfl
  ·have hA:i=1:=by simpa using hA
   subst hA;exact (dead1 hl).elim
theorem zr2{b:Nat}{p V:Value}{l:List UInt8}{r:Res}{w:World}(hbk:w.heap[b]? =some (.cells #[p,V] 172 (0,0)))(hrow:RowAt w r 5 1 l.length (fun cs=>cs=l.map u8V))(hV:V=yh r l.length)(hc:r.cap≤maxLen∨l.length≤maxLen):
  Calls Tryz.prog 97 #[.pointer (some ⟨b,0,none⟩)] w fun e w'=>e=.returned (.string (bs l))∧Keeps r.fp w w':=by
 subst hV;have hlm:l.length≤9223372036854775807:=by
  rcases hrow with⟨_,h0,_⟩|⟨_,_,hle,_⟩
  ·omega
  ·rcases hc with hc|hc
   ·exact Nat.le_trans hle hc
   ·exact hc
 rcases hrow with⟨g1,g2,g3,g4⟩|⟨g1,g2,g3,cs,tl,fr,g4,g5,g6,g7,g8⟩
 ·have hl:l=[]:=List.length_eq_zero_iff.1 g2;subst hl;rw[show yh r ([]:List UInt8).length=.slice none 0 0 by simp[yh,g1]]at hbk;exact (zk3 b p w hbk).mono fun e w' ⟨he,hw⟩=>⟨he,by subst hw;exact Keeps.drawn w _⟩
 ·rw[show yh r l.length=.slice (some ⟨r.b,0,none⟩) l.length r.cap by simp[yh,g1]]at hbk;rw[g2];have hd:Keeps [r.b] w w.drew:=Keeps.drawn w _;by_cases hl:l=[]
  ·subst hl;by_cases hcap:r.cap=0
   ·rw[hcap]at hbk;exact (zjf b r.b p _ fr w hbk g4).mono fun e w' ⟨he,hw⟩=>⟨he,hw.wide⟩
   ·exact (znM b r.b r.cap p w hcap hbk).mono fun e w' ⟨he,hw⟩=>⟨he,by subst hw;exact hd⟩
  ·have hg6:cs.length=l.length:=by rw[g5];simp
   refine(zr1 b r.b r.cap p _ fr l w hl hbk g4 g3 (by simp;omega) hlm (fun j x hj=>?_)).mono fun e w' ⟨he,hw⟩=>⟨he,?_⟩
   ·rw[JB,Nat.zero_add];have hjl:j<l.length:=(List.getElem?_eq_some_iff.1 hj).1;simp only[World.cell?,g4];have:(cs++tl).toArray[j]? =some (u8V x):=by simp only[List.getElem?_toArray];rw[List.getElem?_append_left (by omega),g5,List.getElem?_map,hj];rfl
    simpa[u8V]using this
   ·subst hw;refine hd.trans ⟨by unfold World.freeze;split<;>rfl,by unfold World.freeze;split<;>rfl,by unfold World.freeze;split<;>rfl,by unfold World.freeze;split<;>simp,fun k hk hne=>?_⟩;have hne:k≠r.b:=by simpa using hne
    unfold World.freeze;split
    ·rfl
    ·simp[Array.getElem?_modify,Ne.symm hne]
def zq7(l:List UInt8):Bool:=decide (l.length≤9223372036854775807)
def zdw(vs:List AV)(h:Heap):Option (Bool×List UInt8):=match vs,h with
 |[.ptr 0 0],[some (.cells 172 [.ptr 0 0,.rw 1]),some (.bytes 5 l)]=>some (false,l)
 |[.ptr 0 0],[some (.cells 172 [.ptr 0 0,.rwp 1]),some (.bytes 5 l)]=>some (true,l)
 |_,_=>none
def zi3(_N:Nat):Con:=Con6.c ⟨97,Bool×List UInt8,List UInt8,zdw,fun x=>chk (zq7 x.2) (some x.2),fun _ l=>⟨.str l,[some (.cells 172 [.ptr 0 0,.undef]),none]⟩⟩
theorem zkU(N:Nat):SoundC Tryz.prog GP (zi3 N):=by
 intro args h x r hd hs;have hd:zdw args h=some x:=hd;have hs:chk (zq7 x.2) (some x.2)=some r:=hs;obtain⟨hm,hs⟩:=zn hs;cases hs;have hm:=of_decide_eq_true hm;have key:∀{v:AV}{l:List UInt8},l.length≤9223372036854775807→(∀(L:Lk)(R:Ro)(r1:Res)(V:Value),L 1=some ⟨r1.b,r1.virt,r1.cap,l.length⟩→Rel L R v V→V=yh r1 l.length)→
   ∀R G w vs,GP R→WRel R G [some (.cells 172 [.ptr 0 0,v]),some (.bytes 5 l)] w→RelL (Am.look G [some (.cells 172 [.ptr 0 0,v]),some (.bytes 5 l)]) R [.ptr 0 0] vs→
   Calls Tryz.prog 97 vs.toArray w fun e w'=>∃V R' G',e=.returned V∧WRel R' G' [some (.cells 172 [.ptr 0 0,.undef]),none] w'∧
   Since ⟨R,Am.look G [some (.cells 172 [.ptr 0 0,v]),some (.bytes 5 l)],fpsAll G [some (.cells 172 [.ptr 0 0,v]),some (.bytes 5 l)],w,2⟩ R' G' [some (.cells 172 [.ptr 0 0,.undef]),none] w'∧Rel (Am.look G' [some (.cells 172 [.ptr 0 0,.undef]),none]) R' (.str l) V:=by
  intro v l hlm hv R G w vs hGP W hargs;have F:=JA W;obtain⟨r0,hr0,hlk0,hv0,hfp0,cs,hcs,hrel⟩:=F.look_live (i:=0) rfl;obtain⟨r1,hr1,hlk1,hrow⟩:=F.look_live (i:=1) rfl;obtain⟨u,us,rfl,⟨f,hf,_,rfl⟩,hus⟩:=hargs;have hus:us=[]:=hus;subst hus;rw[hlk0]at hf;cases hf;obtain⟨c0,cr,rfl,h0,c1,cr1,rfl,h1,hcr⟩:=hrel;have hcr:cr1=[]:=hcr;subst hcr;have hV:=hv _ _ r1 _ hlk1 h1;simp only[ObjRel]at hrow;refine(zr2 hcs hrow hV (.inr hlm)).mono fun e w' ⟨he,hk⟩=>?_
  obtain⟨g1,g2⟩:=zxv W hr1 hk;exact⟨_,R,G,he,g1,g2,rfl⟩
 unfold zdw at hd;split at hd
 ·cases hd;refine⟨jk (by kernel_rfl),key hm fun L R r1 V hL hV=>?_⟩;obtain⟨f,hf,h2,h3⟩:=hV;rw[hL]at hf;cases hf;unfold yh;cases hv:r1.virt with
  |true=>simp only[if_true];exact (h2 hv).2
  |false=>simp only[Bool.false_eq_true,if_false];exact h3 hv
 ·cases hd;refine⟨jk (by kernel_rfl),key hm fun L R r1 V hL hV=>?_⟩;obtain⟨f,hf,h2,_,h3⟩:=hV;rw[hL]at hf;cases hf;unfold yh;rw[if_neg (by simpa using h2)];exact h3
 ·cases hd
def WJ(vs:List AV)(h:Heap):Option Unit:=match vs,h with
 |[.ptr 0 0],[some (.cells 172 [.nilp,.nils])]=>some ()
 |_,_=>none
def zeN(_N:Nat):Con:=Con6.c ⟨97,Unit,Unit,WJ,fun _=>some (),fun _ _=>⟨.str [],[some (.cells 172 [.nilp,.nils])]⟩⟩
theorem zi4(N:Nat):SoundC Tryz.prog GP (zeN N):=by
 intro args h x r hd hs;have hd:WJ args h=some x:=hd;unfold WJ at hd;split at hd
 ·cases hd;refine⟨jk (by kernel_rfl),fun R G w vs hGP W hargs=>?_⟩;have F:=JA W;obtain⟨r0,hr0,hlk0,hv0,hfp0,cs,hcs,hrel⟩:=F.look_live (i:=0) rfl;obtain⟨u,us,rfl,⟨f,hf,_,rfl⟩,hus⟩:=hargs;have hus:us=[]:=hus;subst hus;rw[hlk0]at hf;cases hf;obtain⟨c0,cr,rfl,h0,c1,cr1,rfl,h1,hcr⟩:=hrel;have hcr:cr1=[]:=hcr;subst hcr;have h1:c1=.slice none 0 0:=h1;subst h1;refine(zk3 r0.b c0 w hcs).mono fun e w' ⟨he,hw⟩=>?_
  subst hw;have F':=F.keep (Keeps.drawn w (w.drew).drawn:Keeps [] w w.drew);exact⟨_,R,G,he,F'.wrel,F'.since,rfl⟩
 ·cases hd
end Go.Proofs.C06
end
section
set_option maxHeartbeats 4000000
set_option maxRecDepth 100000
namespace Go.Proofs.C06
open Go Go.RowKit Go.Vc Go.Am
def zya(b n:Nat)(w:World)(e:Ending)(w':World):Prop:=e=.returned (.tuple #[])∧Keeps [b] w w'∧∃g cap cs,w.heap.size≤g∧n≤cap∧cs.size=cap∧w'.heap[b]? =some (.cells #[.pointer (some ⟨b,0,none⟩),.slice (some ⟨g,0,none⟩) 0 cap] 172 (0,0))∧w'.heap[g]? =some (.cells cs 5 (0,0))
theorem zvu{b n:Nat}{w:World}{cs:Array Value}(hbk:w.heap[b]? =some (.cells #[.pointer (some ⟨b,0,none⟩),.slice none 0 0] 172 (0,0)))(hle:n≤cs.size):
  zya b n w (.returned (.tuple #[])) ((w.setCell ⟨b,1,none⟩ (.slice (some ⟨w.heap.size,0,none⟩) 0 cs.size)).alloc (.cells cs 5)).drew.drew.drew:=by
 have hlt:b<w.heap.size:=zG hbk;obtain⟨s1,s2⟩:=Yx (o:=1) (v:=.slice (some ⟨w.heap.size,0,none⟩) 0 cs.size) (cs:=[.pointer (some ⟨b,0,none⟩),.slice none 0 0]) hbk;have hz:(w.setCell ⟨b,1,none⟩ (.slice (some ⟨w.heap.size,0,none⟩) 0 cs.size)).heap.size=w.heap.size:=by simp[World.setCell]
 generalize w.setCell ⟨b,1,none⟩ (.slice (some ⟨w.heap.size,0,none⟩) 0 cs.size)=W at s1 s2 hz;have kd:Keeps [b] W (W.alloc (.cells cs 5)).drew.drew.drew:=(Keeps.of_below (((((Below.refl _ W).alloc (Nat.le_refl _) _).drew).drew).drew)).mono (by simp);refine⟨rfl,s2.trans kd,w.heap.size,cs.size,cs,Nat.le_refl _,hle,rfl,?_,?_⟩
 ·exact (Lib.alloc_old W _ b (by omega)).trans s1
 ·rw[←hz];exact heap_alloc_new W _
theorem zrh(b n:Nat)(w:World)(hbk:w.heap[b]? =some (.cells #[.pointer (some ⟨b,0,none⟩),.slice none 0 0] 172 (0,0)))(hn:n≤281474976710656):
  Calls Tryz.prog 148 #[.pointer (some ⟨b,0,none⟩),.int .i64 n] w (zya b n w):=by
 have mixed:=Tryz.checked.mixed;have t33:Tryz.prog.underlying 66=some (.slice 5):=by kernel_rfl
 obtain⟨cs,hrun,hle,hmax⟩:=Lib.run_makeNoZero (P:=Tryz.prog) w.drew #[3] 66 5 t33 n hn;have hw:IntKind.i64.wrap (IntKind.i64.wrap 0+(n:Int))=n:=by rw[IntKind.wrap_i64,IntKind.wrap_i64];omega
 have hcall:(callFunc 197 #[.int .i64 (IntKind.i64.wrap (IntKind.i64.wrap 0+(n:Int)))]).run Tryz.prog w.drew=.ok (.value (.slice (some ⟨w.drew.heap.size,0,none⟩) n cs.size)) (w.drew.drew.drew.alloc (.cells cs 5)):=by rw[hw,run_callFunc_extern Tryz.func197 (by kernel_rfl) (by kernel_rfl) (by kernel_rfl) (e:=Extern.BytealgMakeNoZero.makeNoZero #[3] #[66]) (by kernel_rfl),hrun];rfl
 have hlt:b<w.heap.size:=zG hbk;have c1:w.drew.cell? ⟨b,1,none⟩=some (.slice none 0 0):=by have:w.drew.heap[b]? =_:=hbk;rw[Lib.cell_of_heap this];rfl
 have hb2:(w.alloc (.cells cs 5)).heap[b]? =some (.cells #[.pointer (some ⟨b,0,none⟩),.slice none 0 0] 172 (0,0)):=(Lib.alloc_old w _ b hlt).trans hbk;have c2:(w.alloc (.cells cs 5)).cell? ⟨b,1,none⟩=some (.slice none 0 0):=by rw[Lib.cell_of_heap hb2];rfl
 have f2:(w.alloc (.cells cs 5)).frozen? ⟨b,1,none⟩=false:=Lib.frozen_of_heap hb2 1;have hsz:∃j,Tryz.prog.info? 5=some j∧j.size=1:=⟨_,rfl,by kernel_rfl⟩
 obtain⟨j,hj,hjs⟩:=hsz;have hcopy:∀W:World,(Builtin.copy_ #[66,66] 3 #[.slice (some ⟨w.heap.size,0,none⟩) 0 cs.size,.slice none 0 0]).run Tryz.prog W=.ok (goInt 0) W:=
  fun W=>run_copy_none W 66 66 3 5 _ _ 0 cs.size 0 0 t33 (by kernel_rfl) rfl
 have hfin:=zvu (w:=w) hbk hle;clear hw hj hjs
 go_enter Tryz.func148,Tryz.ntmps148
 go_wp2
 go_region_o
 all_goals (go_wp2;go_end0;exact hfin)
end Go.Proofs.C06
end
section
set_option maxHeartbeats 4000000
set_option maxRecDepth 100000
namespace Go.Proofs.C06
open Go Go.RowKit Go.Vc Go.Am
def WK(vs:List AV)(h:Heap):Option Int:=match vs,h with
 |[.ptr 0 0,.int .i64 n],[some (.cells 172 [.ptr 0 0,.nils])]=>some n
 |_,_=>none
def zfl(n:Int):Bool:=match n with
 |.ofNat m=>Nat.ble 1 m&&Nat.ble m 281474976710656
 |_=>false
theorem zjC{n:Int}(h:zfl n=true):1≤n∧n≤281474976710656:=by
 unfold zfl at h;split at h
 ·simp only[Bool.and_eq_true,Nat.ble_eq]at h;simp only[Int.ofNat_eq_natCast];omega
 ·cases h
def zeO(_N:Nat):Con:=Con6.c ⟨148,Int,Unit,WK,fun n=>chk (zfl n) (some ()),fun _ _=>⟨.tup [],[some (.cells 172 [.ptr 0 0,.rwp 1]),some (.bytes 5 [])]⟩⟩
theorem zi5(N:Nat):SoundC Tryz.prog GP (zeO N):=by
 intro args h (n:Int) r hd hs;have hd:WK args h=some n:=hd;have hs:chk (zfl n) (some ())=some r:=hs;obtain⟨hm,hs⟩:=zn hs;obtain⟨hm1,hm2⟩:=zjC hm;unfold WK at hd;split at hd
 ·cases hd;refine⟨jk (by kernel_rfl),fun R G w vs hGP W hargs=>?_⟩;have F:=JA W;obtain⟨r0,hr0,hlk0,hv0,hfp0,cs,hcs,hrel⟩:=F.look_live (i:=0) rfl;obtain⟨u,us,rfl,⟨f,hf,_,rfl⟩,u2,us2,rfl,rfl,hus⟩:=hargs;have hus:us2=[]:=hus;subst hus;rw[hlk0]at hf;cases hf;obtain⟨c0,cr,rfl,⟨f,hf,_,rfl⟩,c1,cr1,rfl,h1,hcr⟩:=hrel;have hcr:cr1=[]:=hcr;subst hcr;have h1:c1=.slice none 0 0:=h1;subst h1;rw[hlk0]at hf;cases hf;obtain⟨k,rfl⟩:∃k:Nat,n=k:=⟨n.toNat,by omega⟩
  refine(zrh r0.b k w hcs (by omega)).mono fun e w' ⟨he,kp,g,cap,cells,hg,hcap,hsz,hb',hg'⟩=>?_
  have hlt:r0.b<w.heap.size:=zG hcs;have hG:G.length=1:=by simpa using W.len
  have hG0:∀r',[r0,⟨g,false,cap,[g]⟩][0]? =some r'→r'=r0:=fun r' h=>by simpa using h.symm
  have l0:Am.look [r0,(⟨g,false,cap,[g]⟩:Res)] [some (.cells 172 [.ptr 0 0,.rwp 1]),some (.bytes 5 [])] 0=some ⟨r0.b,r0.virt,r0.cap,0⟩:=rfl;have l1:Am.look [r0,(⟨g,false,cap,[g]⟩:Res)] [some (.cells 172 [.ptr 0 0,.rwp 1]),some (.bytes 5 [])] 1=some ⟨g,false,cap,0⟩:=rfl;have two:∀{h:Heap}{i:Nat},h.length=2→i∉[0,1]→¬live h i:=fun hl hi hlv=>by have:=jh hlv;simp at hi;omega
  obtain⟨s1,s2⟩:=yv (R':=R) (G':=[r0,⟨g,false,cap,[g]⟩]) (h':=[some (.cells 172 [.ptr 0 0,.rwp 1]),some (.bytes 5 [])]) (A:=[0,1]) (Fr:=fun _=>False) F.wrel F.since kp
   (fun b hb=>.inr ⟨0,r0,by simp,⟨_,rfl⟩,hr0,by rw[hfp0];exact hb⟩) (fun _ h=>h.elim) rfl (by simp) (fun i hi hl=>(two rfl hi hl).elim)
   (fun i o hi ho=>(two rfl hi ⟨o,ho⟩).elim) (fun _ _ h=>h) (fun b o h1 h2=>by rw[h1]at h2;cases h2)
   (fun i o r hi ho hr=>by
    rcases List.mem_cons.1 hi with rfl|hi
    ·have ho:some (AO.cells 172 [.ptr 0 0,.rwp 1])=some o:=ho;cases ho;have hr:=hG0 _ hr;subst hr;exact⟨⟨hv0,hfp0,[.pointer (some ⟨r.b,0,none⟩),.slice (some ⟨g,0,none⟩) 0 cap],hb',_,_,rfl,⟨_,l0,hv0,rfl⟩,_,_,rfl,⟨_,l1,rfl,by show 1≤cap;omega,rfl⟩,rfl⟩,
      fun b hb=>⟨W.sepR 0 r ⟨_,rfl⟩ hr0 b hb,.inr (.inl ⟨0,r,by simp,⟨_,rfl⟩,hr0,hb⟩)⟩⟩
    ·have hi:i=1:=by simpa using hi
     subst hi;have ho:some (AO.bytes 5 [])=some o:=ho;cases ho;have hr:some (⟨g,false,cap,[g]⟩:Res)=some r:=hr;cases hr;refine⟨.inr ⟨rfl,rfl,Nat.zero_le _,[],cells.toList,(0,0),by simpa using hg',rfl,rfl,by have:=hsz;simp;omega,Nat.le_refl _,fun j _ h2=>by omega⟩,fun b hb=>?_⟩;have hb:b=g:=by simpa using hb
     subst hb;refine⟨?_,.inr (.inr hg)⟩;cases hrb:R b with
     |none=>rfl
     |some ob=>have:=zG (W.ro _ _ hrb);omega)
   (fun i j ri rj hij hi hj hli hlj hri hrj b hb=>by
    have z:∀x,x∈[0,1]→x=0∨x=1:=by simp
    have f0:∀r,[r0,(⟨g,false,cap,[g]⟩:Res)][0]? =some r→r.fp=[r0.b]:=fun r h=>by have h:=hG0 _ h;subst h;exact hfp0
    have f1:∀r,[r0,(⟨g,false,cap,[g]⟩:Res)][1]? =some r→r.fp=[g]:=fun r h=>by have h:some (⟨g,false,cap,[g]⟩:Res)=some r:=h;cases h;rfl
    rcases z i hi with rfl|rfl<;>rcases z j hj with rfl|rfl
    ·exact (hij rfl).elim
    ·rw[f0 _ hri]at hb;rw[f1 _ hrj];simp only[List.mem_singleton]at hb⊢;omega
    ·rw[f1 _ hri]at hb;rw[f0 _ hrj];simp only[List.mem_singleton]at hb⊢;omega
    ·exact (hij rfl).elim)
   (fun i hi hA hl=>by
    have hi:i<1:=hi;have hi:i=0:=by omega
    subst hi;show Am.look _ _ 0=Am.look G _ 0;rw[l0,zH (o:=.cells 172 [.ptr 0 0,.nils]) rfl hr0];rfl)
  exact⟨_,R,_,he,s1,s2,⟨[],rfl,rfl⟩⟩
 ·cases hd
end Go.Proofs.C06
end
