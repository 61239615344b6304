/-
  A part of the proof of the laws.
-/
import Derived.Test.YtlhfikgjegcmaaaGreatDoorAm18
import Derived.Test.YtlhfikgjegcmaaaGreatDoorAm27
import Derived.Test.YtlhfikgjegcmaaaGreatDoorProg
import Derived.Test.YtlhfikgjegcmaaaGreatDoorChecked
import Derived.Test.YtlhfikgjegcmaaaGreatDoorShelf
import Derived.Shelf.Strings.SlTrimAscii
import Derived.Shelf.Strings.Builder1
import Derived.WalkKit
import Derived.Shelf.Strings.Builder2
section
set_option maxHeartbeats 4000000
set_option maxRecDepth 100000
namespace Go.Proofs.C06
open Go Go.RowKit Go.Vc Go.Am
def nG:Nat:=14
structure Gd(w:World):Prop where
 maxLen:∃m,w.cell? ⟨2,0,none⟩=some (.int .i64 m)
 pow:Lib.TabIs Tryz.prog w "internal/strconv.uint64pow10" .u64 Lib.pow10Tab
def gl:Glob:=[(1,.agg [.int .u8 36,.int .u8 43,.int .u8 45])]
def GP(R:Ro):Prop:=(∀w:World,(∀b o,R b=some o->w.heap[b]? =some o)->Gd w)/\GlobOK gl R
theorem gd(R:Ro)(w:World)(h:GP R)(hw:∀b o,R b=some o->w.heap[b]? =some o):Gd w:=h.1 w hw
theorem zjw(R:Ro)(h:GP R):GlobOK gl R:=h.2
theorem zfs:Stays GP:=fun R R' hs h=>⟨fun w hw=>h.1 w fun b o hb=>hw b o (hs b o hb),fun g=>ze hs _ _ (fun i hi=>by rw[qV]at hi;cases hi) (h.2 g)⟩
theorem mixed:Tryz.prog.follows .mixedOrders=true:=Tryz.checked.mixed
theorem bas:Bas Tryz.prog GP gl:=⟨mixed,zjw,zfs⟩
def jt(vs:List AV)(h:Heap):Option (mQ×mQ):=match vs,h with
 |[.str q0,.str q1],[]=>some (q0,q1)
 |_,_=>none
theorem yn(vs:List AV)(h:Heap)(x:mQ×mQ)(hx:jt vs h=some x):vs=[.str x.1,.str x.2]/\h=[]:=by unfold jt at hx;split at hx<;>cases hx;exact⟨rfl,rfl⟩
def JB(_N:Nat):Con:=Con6.c ⟨106,mQ×mQ,Bool,jt,fun x=>zde x.1 x.2,fun _ r=>⟨.bool r,[]⟩⟩
theorem QU(N:Nat):SoundC Tryz.prog GP (JB N):=zM gd (fun x=>[.str x.1,.str x.2]) (fun x=>[.string (bs x.1),.string (bs x.2)]) (fun r=>.bool r) (by kernel_rfl) yn (fun _=>rfl) (fun _=>rfl) fun x r w hG h=>by cases h;exact (Tryz.strings_HasPrefix (bs x.1) (bs x.2) w).mono fun e w' ⟨h1,h2⟩=>⟨h1,.of_eq h2⟩
def JE(_N:Nat):Con:=Con6.c ⟨65,mQ×mQ,mQ×Bool,jt,fun x=>zdi x.1 x.2,fun _ r=>⟨.tup [.str r.1,.bool r.2],[]⟩⟩
theorem QX(N:Nat):SoundC Tryz.prog GP (JE N):=zM gd (fun x=>[.str x.1,.str x.2]) (fun x=>[.string (bs x.1),.string (bs x.2)]) (fun r=>.tuple #[.string (bs r.1),.bool r.2]) (by kernel_rfl) yn (fun _=>rfl) (fun _=>rfl) fun x r w hG h=>by cases h;exact (Tryz.strings_CutPrefix (bs x.1) (bs x.2) w).mono fun e w' ⟨h1,h2⟩=>⟨h1,.of_eq h2⟩
def JD(_N:Nat):Con:=Con6.c ⟨71,mQ×mQ,mQ×Bool,jt,fun x=>zdh x.1 x.2,fun _ r=>⟨.tup [.str r.1,.bool r.2],[]⟩⟩
theorem QW(N:Nat):SoundC Tryz.prog GP (JD N):=zM gd (fun x=>[.str x.1,.str x.2]) (fun x=>[.string (bs x.1),.string (bs x.2)]) (fun r=>.tuple #[.string (bs r.1),.bool r.2]) (by kernel_rfl) yn (fun _=>rfl) (fun _=>rfl) fun x r w hG h=>by obtain⟨hc,h⟩:=zg h;cases h;exact (Tryz.strings_CutSuffix (bs x.1) (bs x.2) w (by rw[z7];exact q9 hc)).mono fun e w' ⟨h1,h2⟩=>⟨h1,.of_eq h2⟩
def Z3(_N:Nat):Con:=Con6.c ⟨69,mQ×mQ,mQ,jt,fun x=>zb0 x.1 x.2,fun _ r=>⟨.str r,[]⟩⟩
theorem Qb(N:Nat):SoundC Tryz.prog GP (Z3 N):=zM gd (fun x=>[.str x.1,.str x.2]) (fun x=>[.string (bs x.1),.string (bs x.2)]) (fun r=>.string (bs r)) (by kernel_rfl) yn (fun _=>rfl) (fun _=>rfl) fun x r w hG h=>by obtain⟨hc,h⟩:=zg h;cases h;exact (Tryz.strings_TrimSuffix (bs x.1) (bs x.2) w (by rw[z7];exact q9 hc)).mono fun e w' ⟨h1,h2⟩=>⟨h1,.of_eq h2⟩
def Z4(_N:Nat):Con:=Con6.c ⟨180,mQ×mQ,mQ,jt,fun x=>zb1 x.1 x.2,fun _ r=>⟨.str r,[]⟩⟩
theorem Qc(N:Nat):SoundC Tryz.prog GP (Z4 N):=zM gd (fun x=>[.str x.1,.str x.2]) (fun x=>[.string (bs x.1),.string (bs x.2)]) (fun r=>.string (bs r)) (by kernel_rfl) yn (fun _=>rfl) (fun _=>rfl) fun x r w hG h=>by cases h;exact (Tryz.strings_TrimPrefix (bs x.1) (bs x.2) w).mono fun e w' ⟨h1,h2⟩=>⟨h1,.of_eq h2⟩
def VH(vs:List AV)(h:Heap):Option (mQ×Int):=match vs,h with
 |[.str q0,.int .u8 q1],[]=>some (q0,q1)
 |_,_=>none
theorem ziA(vs:List AV)(h:Heap)(x:mQ×Int)(hx:VH vs h=some x):vs=[.str x.1,.int .u8 x.2]/\h=[]:=by unfold VH at hx;split at hx<;>cases hx;exact⟨rfl,rfl⟩
def Jz(_N:Nat):Con:=Con6.c ⟨109,mQ×Int,Int,VH,fun x=>K2 x.1 x.2,fun _ r=>⟨.int .i64 r,[]⟩⟩
theorem QS(N:Nat):SoundC Tryz.prog GP (Jz N):=zM gd (fun x=>[.str x.1,.int .u8 x.2]) (fun x=>[.string (bs x.1),.int .u8 x.2]) (fun r=>.int .i64 r) (by kernel_rfl) ziA (fun _=>rfl) (fun _=>rfl) fun x r w hG h=>by cases h;exact (Tryz.strings_IndexByte (bs x.1) x.2 w).mono fun e w' ⟨h1,h2⟩=>⟨h1,.of_eq h2⟩
def zb2(_N:Nat):Con:=Con6.c ⟨66,mQ×mQ,mQ×mQ×Bool,jt,fun x=>zkm x.1 x.2,fun _ r=>⟨.tup [.str r.1,.str r.2.1,.bool r.2.2],[]⟩⟩
theorem zdg(N:Nat):SoundC Tryz.prog GP (zb2 N):=zM gd (fun x=>[.str x.1,.str x.2]) (fun x=>[.string (bs x.1),.string (bs x.2)]) (fun r=>.tuple #[.string (bs r.1),.string (bs r.2.1),.bool r.2.2]) (by kernel_rfl) yn (fun _=>rfl) (fun _=>rfl) fun x r w hG h=>by obtain⟨hc,h⟩:=zg h;cases h;obtain⟨m,hm⟩:=hG.maxLen;exact (Tryz.strings_Cut (bs x.1) (bs x.2) m w (by rw[z7];exact q9 hc) hm).mono fun e w' ⟨h1,n,h2⟩=>⟨h1,h2▸Keeps.drewN _ _⟩
def K4(_N:Nat):Con:=Con6.c ⟨45,mQ×mQ,Int,jt,fun x=>zjq x.1 x.2,fun _ r=>⟨.int .i64 r,[]⟩⟩
theorem zaB(N:Nat):SoundC Tryz.prog GP (K4 N):=zM gd (fun x=>[.str x.1,.str x.2]) (fun x=>[.string (bs x.1),.string (bs x.2)]) (fun r=>.int .i64 r) (by kernel_rfl) yn (fun _=>rfl) (fun _=>rfl) fun x r w hG h=>by
 obtain⟨s,p⟩:=x
 match p,h with
 |[c],h=>cases h;exact (Tryz.strings_Count_one (bs s) c w).mono fun e w' ⟨h1,h2⟩=>⟨h1,.of_eq h2⟩
def Yj(_N:Nat):Con:=Con6.c ⟨239,mQ×mQ,Bool,jt,fun x=>zeT x.1 x.2,fun _ r=>⟨.bool r,[]⟩⟩
theorem XM(N:Nat):SoundC Tryz.prog GP (Yj N):=zM gd (fun x=>[.str x.1,.str x.2]) (fun x=>[.string (bs x.1),.string (bs x.2)]) (fun r=>.bool r) (by kernel_rfl) yn (fun _=>rfl) (fun _=>rfl) fun x r w hG h=>by
 obtain⟨s,p⟩:=x
 match p,h with
 |[c],h=>cases h;exact (Tryz.strings_Contains_one (bs s) c w).mono fun e w' ⟨h1,h2⟩=>⟨h1,.of_eq h2⟩
def Yi(_N:Nat):Con:=Con6.c ⟨68,mQ×mQ,mQ,jt,fun x=>Wu x.1 x.2,fun _ r=>⟨.str r,[]⟩⟩
theorem XL(N:Nat):SoundC Tryz.prog GP (Yi N):=zM gd (fun x=>[.str x.1,.str x.2]) (fun x=>[.string (bs x.1),.string (bs x.2)]) (fun r=>.string (bs r)) (by kernel_rfl) yn (fun _=>rfl) (fun _=>rfl) fun x r w hG h=>by obtain⟨hc,h⟩:=zg h;obtain⟨hc,ha⟩:=Qo hc;cases h;exact (Any.strings_TrimLeft_laid Tryz.lays161 (by kernel_rfl) (bs x.1) (bs x.2) w (by rw[z7];exact q9 hc) (JO ha)).mono fun e w' ⟨h1,h2⟩=>⟨h1,.of_below h2⟩
def Jy(_N:Nat):Con:=Con6.c ⟨70,mQ×mQ,mQ,jt,fun x=>zdd x.1 x.2,fun _ r=>⟨.str r,[]⟩⟩
theorem QR(N:Nat):SoundC Tryz.prog GP (Jy N):=zM gd (fun x=>[.str x.1,.str x.2]) (fun x=>[.string (bs x.1),.string (bs x.2)]) (fun r=>.string (bs r)) (by kernel_rfl) yn (fun _=>rfl) (fun _=>rfl) fun x r w hG h=>by obtain⟨hc,h⟩:=zg h;obtain⟨hc,ha⟩:=Qo hc;obtain⟨hc2,ha⟩:=Qo ha;cases h;exact (Any.strings_TrimRight_laid Tryz.lays162 (by kernel_rfl) (bs x.1) (bs x.2) w (by rw[z7];exact q9 hc) (by rw[z7];exact q9 hc2) (JO ha)).mono fun e w' ⟨h1,h2⟩=>⟨h1,.of_below h2⟩
def Wt(_N:Nat):Con:=Con6.c ⟨184,mQ×mQ,mQ,jt,fun x=>zf9 x.1 x.2,fun _ r=>⟨.str r,[]⟩⟩
theorem zbZ(N:Nat):SoundC Tryz.prog GP (Wt N):=zM gd (fun x=>[.str x.1,.str x.2]) (fun x=>[.string (bs x.1),.string (bs x.2)]) (fun r=>.string (bs r)) (by kernel_rfl) yn (fun _=>rfl) (fun _=>rfl) fun x r w hG h=>by obtain⟨hc,h⟩:=zg h;obtain⟨hc,ha⟩:=Qo hc;obtain⟨hc2,ha⟩:=Qo ha;cases h;exact (Any.strings_Trim_laid Tryz.lays160 (by kernel_rfl) (bs x.1) (bs x.2) w (by rw[z7];exact q9 hc) (by rw[z7];exact q9 hc2) (JO ha)).mono fun e w' ⟨h1,h2⟩=>⟨h1,.of_below h2⟩
def JA(_N:Nat):Con:=Con6.c ⟨193,mQ×mQ,Bool,jt,fun x=>K3 x.1 x.2,fun _ r=>⟨.bool r,[]⟩⟩
theorem QT(N:Nat):SoundC Tryz.prog GP (JA N):=zM gd (fun x=>[.str x.1,.str x.2]) (fun x=>[.string (bs x.1),.string (bs x.2)]) (fun r=>.bool r) (by kernel_rfl) yn (fun _=>rfl) (fun _=>rfl) fun x r w hG h=>by obtain⟨hc,h⟩:=zg h;cases h;exact (Tryz.strings_HasSuffix (bs x.1) (bs x.2) w (by rw[z7];exact q9 hc)).mono fun e w' ⟨h1,h2⟩=>⟨h1,.of_eq h2⟩
def VI(vs:List AV)(h:Heap):Option (Int×Int):=match vs,h with
 |[.int .i64 q0,.int .i64 q1],[]=>some (q0,q1)
 |_,_=>none
theorem ziB(vs:List AV)(h:Heap)(x:Int×Int)(hx:VI vs h=some x):vs=[.int .i64 x.1,.int .i64 x.2]/\h=[]:=by unfold VI at hx;split at hx<;>cases hx;exact⟨rfl,rfl⟩
def JC(_N:Nat):Con:=Con6.c ⟨148,Int×Int,mQ,VI,fun x=>zdf x.1 x.2,fun _ r=>⟨.str r,[]⟩⟩
theorem QV(N:Nat):SoundC Tryz.prog GP (JC N):=zM gd (fun x=>[.int .i64 x.1,.int .i64 x.2]) (fun x=>[.int .i64 x.1,.int .i64 x.2]) (fun r=>.string (bs r)) (by kernel_rfl) ziB (fun _=>rfl) (fun _=>rfl) fun x r w hG h=>by obtain⟨hc,h⟩:=zg h;obtain⟨h10,hc⟩:=Qo hc;obtain⟨h1,h2⟩:=Qo hc;cases h;obtain⟨n,b⟩:=x;obtain rfl:b=10:=q9 h10;exact (Tryz.strconv_FormatInt_10 n (q9 h1) (q9 h2) w hG.pow).mono fun e w' ⟨h1,k,os,h2⟩=>⟨h1,h2▸(Keeps.drewN _ _).trans (Keeps.grow _ _)⟩
def VF(vs:List AV)(h:Heap):Option (mQ×Int):=match vs,h with
 |[.str q0,.int .i32 q1],[]=>some (q0,q1)
 |_,_=>none
theorem ziy(vs:List AV)(h:Heap)(x:mQ×Int)(hx:VF vs h=some x):vs=[.str x.1,.int .i32 x.2]/\h=[]:=by unfold VF at hx;split at hx<;>cases hx;exact⟨rfl,rfl⟩
def Zd(_N:Nat):Con:=Con6.c ⟨74,mQ×Int,Bool,VF,fun x=>VQ x.1 x.2,fun _ r=>⟨.bool r,[]⟩⟩
theorem Ya(N:Nat):SoundC Tryz.prog GP (Zd N):=zM gd (fun x=>[.str x.1,.int .i32 x.2]) (fun x=>[.string (bs x.1),.int .i32 x.2]) (fun r=>.bool r) (by kernel_rfl) ziy (fun _=>rfl) (fun _=>rfl) fun x r w hG h=>by obtain⟨hc,h⟩:=zg h;obtain⟨h1,h2⟩:=Qo hc;cases h;exact (Tryz.strings_ContainsRune_ascii (bs x.1) x.2 w (q9 h1) (q9 h2)).mono fun e w' ⟨h1,h2⟩=>⟨h1,.of_eq h2⟩
def Zz(_N:Nat):Con:=Con6.c ⟨64,mQ×mQ,Bool,jt,fun x=>zaC x.1 x.2,fun _ r=>⟨.bool r,[]⟩⟩
theorem YC(N:Nat):SoundC Tryz.prog GP (Zz N):=zM gd (fun x=>[.str x.1,.str x.2]) (fun x=>[.string (bs x.1),.string (bs x.2)]) (fun r=>.bool r) (by kernel_rfl) yn (fun _=>rfl) (fun _=>rfl) fun x r w hG h=>by obtain⟨hc,h⟩:=zg h;obtain⟨h1,hc⟩:=Qo hc;obtain⟨h2,hc⟩:=Qo hc;obtain⟨h3,h4⟩:=Qo hc;cases h;exact (Tryz.strings_ContainsAny_laid (bs x.1) (bs x.2) w (by rw[z7];exact q9 h1) (by rw[z7];exact q9 h2) (JO h3) (JO h4)).mono fun e w' ⟨h1,h2⟩=>⟨h1,.of_below h2⟩
def za9(vs:List AV)(h:Heap):Option (Int):=match vs,h with
 |[.int .i32 q0],[]=>some q0
 |_,_=>none
theorem zjK(vs:List AV)(h:Heap)(x:Int)(hx:za9 vs h=some x):vs=[.int .i32 x]/\h=[]:=by unfold za9 at hx;split at hx<;>cases hx;exact⟨rfl,rfl⟩
def Qd(_N:Nat):Con:=Con6.c ⟨127,Int,Int,za9,fun x=>zga x,fun _ r=>⟨.int .i64 r,[]⟩⟩
theorem K1(N:Nat):SoundC Tryz.prog GP (Qd N):=zM gd (fun x=>[.int .i32 x]) (fun x=>[.int .i32 x]) (fun r=>.int .i64 r) (by kernel_rfl) zjK (fun _=>rfl) (fun _=>rfl) fun x r w hG h=>by cases h;exact (Tryz.utf8_RuneLen x w).mono fun e w' ⟨h1,h2⟩=>⟨h1,.of_eq h2⟩
def VG(vs:List AV)(h:Heap):Option (mQ×Int):=match vs,h with
 |[.str q0,.int .i64 q1],[]=>some (q0,q1)
 |_,_=>none
theorem ziz(vs:List AV)(h:Heap)(x:mQ×Int)(hx:VG vs h=some x):vs=[.str x.1,.int .i64 x.2]/\h=[]:=by unfold VG at hx;split at hx<;>cases hx;exact⟨rfl,rfl⟩
def Xp(_N:Nat):Con:=Con6.c ⟨61,mQ×Int,mQ,VG,fun x=>Qe x.1 x.2,fun _ r=>⟨.str r,[]⟩⟩
theorem VP(N:Nat):SoundC Tryz.prog GP (Xp N):=zM gd (fun x=>[.str x.1,.int .i64 x.2]) (fun x=>[.string (bs x.1),.int .i64 x.2]) (fun r=>.string (bs r)) (by kernel_rfl) ziz (fun _=>rfl) (fun _=>rfl) fun x r w hG h=>by
 obtain⟨hc,h⟩:=zg h;obtain⟨h1,hc⟩:=Qo hc;obtain⟨h2,h3⟩:=Qo hc;have h1:=q9 h1;have h2:=q9 h2;have h3:=q9 h3;cases h;obtain⟨s,c⟩:=x;obtain⟨k,rfl⟩:∃k:Nat,c=k:=⟨c.toNat,by simp only at h1;omega⟩
 simp only[xU]at*
 exact (Tryz.strings_Repeat (bs s) k w (by omega) (by rw[z7];exact h3)).mono fun e w' ⟨h1,h2⟩=>⟨h1,.of_below h2⟩
def za8(vs:List AV)(h:Heap):Option mQ:=match vs,h with
 |[.str q0],[]=>some q0
 |_,_=>none
theorem zjJ(vs:List AV)(h:Heap)(x:mQ)(hx:za8 vs h=some x):vs=[.str x]/\h=[]:=by unfold za8 at hx;split at hx<;>cases hx;exact⟨rfl,rfl⟩
def Wv(_N:Nat):Con:=Con6.c ⟨107,mQ,Int,za8,fun x=>zjY x,fun _ r=>⟨.tup [.int .i64 r,.nili],[]⟩⟩
theorem zb3(N:Nat):SoundC Tryz.prog GP (Wv N):=zM gd (fun x=>[.str x]) (fun x=>[.string (bs x)]) (fun r=>.tuple #[.int .i64 r,.nilIface]) (by kernel_rfl) zjJ (fun _=>rfl) (fun _=>rfl) fun x r w hG h=>by obtain⟨hc,h⟩:=zg h;exact (Tryz.strconv_Atoi (bs x) r (by rw[z7];exact q9 hc) h w).mono fun e w' ⟨h1,t,h2⟩=>⟨h1,by subst h2;exact .of_below (Lib.bytesWorld_below _ _ _)⟩
end Go.Proofs.C06
end
section
set_option maxHeartbeats 4000000
set_option maxRecDepth 100000
namespace Go.Proofs.C06
open Go Go.RowKit Go.Vc Go.Am
theorem zio(b:Nat)(w:World)(h0:w.cell? ⟨b,0,none⟩=some (.pointer (some ⟨b,0,none⟩))):
  Calls Tryz.prog 110 #[.pointer (some ⟨b,0,none⟩)] w fun e w'=>e=.returned (.tuple #[])/\w'=w:=by
 have hsz:∃j,Tryz.prog.info? 134=some j:=⟨_,rfl⟩
 obtain⟨j,hj⟩:=hsz
 go_enter Tryz.func110,Tryz.ntmps110
 go_wp2
 rw[Lib.run_neq_ptr_same w _ (by kernel_rfl) hj]
 go_wp2
 go_end0
 exact⟨rfl,rfl⟩
theorem zgR(b:Nat)(w:World)(h0:w.cell? ⟨b,0,none⟩=some (.pointer none))(hsh:w.shape? b=some (134,2))(hfz:w.frozen? ⟨b,0,none⟩=false):
  Calls Tryz.prog 110 #[.pointer (some ⟨b,0,none⟩)] w fun e w'=>e=.returned (.tuple #[])/\w'=w.setCell ⟨b,0,none⟩ (.pointer (some ⟨b,0,none⟩)):=by
 have hsz:∃j,Tryz.prog.info? 134=some j/\j.size=2:=⟨_,rfl,by kernel_rfl⟩
 obtain⟨j,hj,hjs⟩:=hsz;have t55:Tryz.prog.underlying 132=some (.pointer 134):=by kernel_rfl
 have t109:Tryz.prog.underlying 241=some (.unsafePointer):=by kernel_rfl
 go_enter Tryz.func110,Tryz.ntmps110
 go_wp2
 rw[Lib.run_to_unsafe w ⟨b,0,none⟩ t55 t109 hj (by rw[hjs];decide) hsh (Nat.zero_lt_succ 1)];simp only[Result.andThen];rw[Oper.upon_value]
 go_wp2
 rw[run_callFunc_extern Tryz.func166 (by kernel_rfl) (by kernel_rfl) (by kernel_rfl) (e:=Extern.AbiNoEscape.same) (by kernel_rfl)];rw[Lib.run_noEscape];simp only[Result.andThen];rw[Oper.upon_value]
 go_wp2
 rw[Lib.run_from_unsafe w ⟨b,0,none⟩ t109 t55 hj hsh (by kernel_rfl)];simp only[Result.andThen];rw[Oper.upon_value]
 go_wp2
 go_end0
 exact⟨rfl,rfl⟩
def YI(vs:List AV)(h:Heap):Option (AV×Heap):=match vs,h with
 |[.ptr 0 0],some (.cells 134 [.ptr 0 0,v])::h=>some (v,h)
 |_,_=>none
def JN(vs:List AV)(h:Heap):Option (AV×Heap):=match vs,h with
 |[.ptr 0 0],some (.cells 134 [.nilp,v])::h=>some (v,h)
 |_,_=>none
def Vt(_N:Nat):Con:=Con6.c ⟨110,AV×Heap,Unit,YI,fun _=>some (),fun x _=>⟨.tup [],some (.cells 134 [.ptr 0 0,x.1])::x.2⟩⟩
def Xz(_N:Nat):Con:=Con6.c ⟨110,AV×Heap,Unit,JN,fun _=>some (),fun x _=>⟨.tup [],some (.cells 134 [.ptr 0 0,x.1])::x.2⟩⟩
theorem za2(N:Nat):SoundC Tryz.prog GP (Vt N):=by
 intro args h x r hd hs;have hd:YI args h=some x:=hd;unfold YI at hd;split at hd
 ·rename_i v hp hq;cases hd;refine⟨ji (by kernel_rfl),fun R G w vs hGP W hargs=>?_⟩;have F:=ZG W;obtain⟨r0,hr,hlk,hv0,hfp,cs,hcs,hrel⟩:=F.look_live (i:=0) rfl;obtain⟨u,us,rfl,⟨f,hf,_,rfl⟩,hus⟩:=hargs;have hus:us=[]:=hus;subst hus;rw[hlk]at hf;cases hf;obtain⟨c0,cr,rfl,⟨f,hf,_,rfl⟩,_⟩:=hrel;rw[hlk]at hf;cases hf;refine(zio r0.b w (by simp[World.cell?,hcs])).mono fun e w' ⟨he,hw⟩=>?_
  subst hw;exact⟨_,R,G,he,W,F.since,⟨[],rfl,rfl⟩⟩
 ·cases hd
theorem VT(N:Nat):SoundC Tryz.prog GP (Xz N):=by
 intro args h x r hd hs;have hd:JN args h=some x:=hd;unfold JN at hd;split at hd
 ·rename_i v hp hq;cases hd;refine⟨ji (by kernel_rfl),fun R G w vs hGP W hargs=>?_⟩;have F:=ZG W;obtain⟨r0,hr,hlk,hv0,hfp,cs,hcs,hrel⟩:=F.look_live (i:=0) rfl;obtain⟨u,us,rfl,⟨f,hf,_,rfl⟩,hus⟩:=hargs;have hus:us=[]:=hus;subst hus;rw[hlk]at hf;cases hf;obtain⟨c0,cr,rfl,h0,c1,cr1,rfl,h1,hcr⟩:=hrel;have hcr:cr1=[]:=hcr;subst hcr;have h0:c0=.pointer none:=h0;subst h0;refine(zgR r0.b w (by simp[World.cell?,hcs]) (by simp[World.shape?,hcs]) (by simp[World.frozen?,hcs])).mono fun e w' ⟨he,hw⟩=>?_
  subst hw;obtain⟨s1,s2⟩:=Jf (o:=0) (v:=.pointer (some ⟨r0.b,0,none⟩)) hcs;obtain⟨F',_⟩:=F.write (i:=0) (ao:=.cells 134 [.ptr 0 0,v]) rfl hr rfl hfp s2 (fun L' hL=>⟨hv0,hfp,_,s1,_,_,rfl,⟨_,hL _ _ hlk,hv0,rfl⟩,_,_,rfl,ze (fun _ _ h=>h) _ _ (fun j _ f hf=>hL j f hf) h1,rfl⟩);exact⟨_,R,G,he,F'.wrel,F'.since,⟨[],rfl,rfl⟩⟩
 ·cases hd
end Go.Proofs.C06
end
section
set_option maxHeartbeats 2000000
set_option maxRecDepth 100000
namespace Go.Proofs.C06
open Go Go.RowKit Go.Vc Go.Am
theorem zg5(b g cap:Nat)(p:Value)(cur:Array Value)(fr:Nat×Nat)(l:mQ)(w:World)(hl0:l≠[])(hbk:w.heap[b]? =some (.cells #[p,.slice (some ⟨g,0,none⟩) l.length cap] 134 (0,0)))
  (hg:w.heap[g]? =some (.cells cur 5 fr)) (hn:l.length<=cap) (hcs:l.length<=cur.size) (hsz:l.length<=9223372036854775807) (hcell:∀j x,l[j]? =some x->w.cell? ((⟨g,0,none⟩:Addr).add j)=some (.int .u8 x.toNat)):
  Calls Tryz.prog 62 #[.pointer (some ⟨b,0,none⟩)] w fun e w'=>e=.returned (.string ⟨l.toArray⟩)/\w'=w.drew.freeze ⟨g,0,none⟩ l.length:=by
 have hlen:l.length≠0:=by simpa using hl0
 have mixed:=Tryz.checked.mixed;have c1:w.drew.cell? ⟨b,1,none⟩=some (.slice (some ⟨g,0,none⟩) l.length cap):=by have:w.drew.heap[b]? =some (.cells #[p,.slice (some ⟨g,0,none⟩) l.length cap] 134 (0,0)):=hbk;rw[Lib.cell_of_heap this];rfl
 have hSD:(Builtin.unsafeSliceData_ #[22] 196 #[.slice (some ⟨g,0,none⟩) l.length cap]).run Tryz.prog w.drew=.ok (.pointer (some ⟨g,0,none⟩)) w.drew:=
  Lib.run_unsafeSliceData_row _ _ _ _ _ _ (by omega)
 have hUS:(Builtin.unsafeString_ #[196,3] 9 #[.pointer (some ⟨g,0,none⟩),.int .i64 l.length]).run Tryz.prog w.drew=.ok (.string ⟨l.toArray⟩) (w.drew.freeze ⟨g,0,none⟩ l.length):=by refine Lib.run_unsafeString_row w.drew 196 3 9 5 (by kernel_rfl) (by kernel_rfl) g cur.size (by have hg':w.drew.heap[g]? =some (.cells cur 5 fr):=hg;simp[World.shape?,hg']) l hl0 hcs hsz hcell
 go_enter Tryz.func62,Tryz.ntmps62
 go_wp2
 go_region_o
 all_goals (go_wp2;go_ret;exact⟨rfl,rfl⟩)
theorem zdV(b:Nat)(p:Value)(w:World)(hbk:w.heap[b]? =some (.cells #[p,.slice none 0 0] 134 (0,0))):
  Calls Tryz.prog 62 #[.pointer (some ⟨b,0,none⟩)] w fun e w'=>e=.returned (.string ⟨#[]⟩)/\w'=w.drew:=by
 have mixed:=Tryz.checked.mixed;have hUS:(Builtin.unsafeString_ #[196,3] 9 #[.pointer none,.int .i64 0]).run Tryz.prog w.drew=.ok (.string .empty) w.drew:=Lib.run_unsafeString_none w.drew _ _ _ _;have c1:w.drew.cell? ⟨b,1,none⟩=some (.slice none 0 0):=by have:w.drew.heap[b]? =some (.cells #[p,.slice none 0 0] 134 (0,0)):=hbk;rw[Lib.cell_of_heap this];rfl
 have hSD:(Builtin.unsafeSliceData_ #[22] 196 #[.slice none 0 0]).run Tryz.prog w.drew=.ok (.pointer none) w.drew:=rfl
 go_enter Tryz.func62,Tryz.ntmps62
 go_wp2
 go_region_o
 all_goals (go_wp2;go_ret;exact⟨rfl,rfl⟩)
theorem zfq(b g cap:Nat)(p:Value)(w:World)(hc0:cap≠0)(hbk:w.heap[b]? =some (.cells #[p,.slice (some ⟨g,0,none⟩) 0 cap] 134 (0,0))):
  Calls Tryz.prog 62 #[.pointer (some ⟨b,0,none⟩)] w fun e w'=>e=.returned (.string ⟨#[]⟩)/\w'=w.drew:=by
 have mixed:=Tryz.checked.mixed;have hUS:(Builtin.unsafeString_ #[196,3] 9 #[.pointer (some ⟨g,0,none⟩),.int .i64 0]).run Tryz.prog w.drew=.ok (.string .empty) w.drew:=Lib.run_unsafeString_none w.drew _ _ _ _;have c1:w.drew.cell? ⟨b,1,none⟩=some (.slice (some ⟨g,0,none⟩) 0 cap):=by have:w.drew.heap[b]? =some (.cells #[p,.slice (some ⟨g,0,none⟩) 0 cap] 134 (0,0)):=hbk;rw[Lib.cell_of_heap this];rfl
 have hSD:(Builtin.unsafeSliceData_ #[22] 196 #[.slice (some ⟨g,0,none⟩) 0 cap]).run Tryz.prog w.drew=.ok (.pointer (some ⟨g,0,none⟩)) w.drew:=
  Lib.run_unsafeSliceData_row _ _ _ _ _ _ hc0
 clear hc0
 go_enter Tryz.func62,Tryz.ntmps62
 go_wp2
 go_region_o
 all_goals (go_wp2;go_ret;exact⟨rfl,rfl⟩)
theorem zcJ(b g:Nat)(p:Value)(cur:Array Value)(fr:Nat×Nat)(w:World)(hbk:w.heap[b]? =some (.cells #[p,.slice (some ⟨g,0,none⟩) 0 0] 134 (0,0)))(hg:w.heap[g]? =some (.cells cur 5 fr)):
  Calls Tryz.prog 62 #[.pointer (some ⟨b,0,none⟩)] w fun e w'=>e=.returned (.string ⟨#[]⟩)/\Vc.Keeps [] w w':=by
 have mixed:=Tryz.checked.mixed;have hUS:∀W q,(Builtin.unsafeString_ #[196,3] 9 #[.pointer q,.int .i64 0]).run Tryz.prog W=.ok (.string .empty) W:=fun W q=>Lib.run_unsafeString_none W _ _ _ _
 have hlt:b<w.heap.size:=(Array.getElem?_eq_some_iff.1 hbk).1;have c1:w.drew.cell? ⟨b,1,none⟩=some (.slice (some ⟨g,0,none⟩) 0 0):=by have:w.drew.heap[b]? =some (.cells #[p,.slice (some ⟨g,0,none⟩) 0 0] 134 (0,0)):=hbk;rw[Lib.cell_of_heap this];rfl
 have hSD:(Builtin.unsafeSliceData_ #[22] 196 #[.slice (some ⟨g,0,none⟩) 0 0]).run Tryz.prog w.drew=.ok (.pointer (some ⟨w.drew.heap.size,0,none⟩)) (w.drew.alloc (.view ⟨g,0,none⟩ 5)):=
  Lib.run_unsafeSliceData_zero w.drew _ _ 5 (by kernel_rfl) ⟨g,0,none⟩ 0 (5,cur.size) (by have hg':w.drew.heap[g]? =some (.cells cur 5 fr):=hg;simp[World.shape?,hg'])
 have c2:(w.drew.alloc (.view ⟨g,0,none⟩ 5)).cell? ⟨b,1,none⟩=some (.slice (some ⟨g,0,none⟩) 0 0):=by have:(w.drew.alloc (.view ⟨g,0,none⟩ 5)).heap[b]? =_:=(Lib.alloc_old w.drew _ b hlt).trans hbk;rw[Lib.cell_of_heap this];rfl
 have c3:(w.alloc (.view ⟨g,0,none⟩ 5)).drew.cell? ⟨b,1,none⟩=some (.slice (some ⟨g,0,none⟩) 0 0):=c2;have c0:w.cell? ⟨b,1,none⟩=some (.slice (some ⟨g,0,none⟩) 0 0):=c1
 go_enter Tryz.func62,Tryz.ntmps62
 go_wp2
 go_region_o
 all_goals (go_wp2;go_ret;exact⟨rfl,.of_below ((Below.drew (Below.refl _ w)).alloc (wP _) _)⟩)
theorem zjO{R:Ro}{G:List Res}{w w':World}{v:AV}{l:mQ}{r1:Res}(W:WRel R G [some (.cells 134 [.ptr 0 0,v]),some (.bytes 5 l)] w)(hr1:G[1]? =some r1)(k:Keeps r1.fp w w'):
  WRel R G [some (.cells 134 [.ptr 0 0,.undef]),none] w'/\Since ⟨R,Am.look G [some (.cells 134 [.ptr 0 0,v]),some (.bytes 5 l)],fpsAll G [some (.cells 134 [.ptr 0 0,v]),some (.bytes 5 l)],w,2⟩ R G [some (.cells 134 [.ptr 0 0,.undef]),none] w':=by
 have F:=ZG W;obtain⟨r0,hr0,hlk0,hv0,hfp0,cs,hcs,hrel⟩:=F.look_live (i:=0) rfl;have two:∀{h:Heap}{i:Nat},h.length=2->i∉[0,1]->¬live h i:=fun hl hi hlv=>by have:=jf hlv;simp at hi;omega
 have dead1:¬live [some (.cells 134 [.ptr 0 0,.undef]),none] 1:=fun⟨o,ho⟩=>by simp[hget]at ho
 refine yj (G':=G) (h':=[some (.cells 134 [.ptr 0 0,.undef]),none]) (A:=[0,1]) (Fr:=fun _=>False) F.wrel F.since k
  (fun b hb=>.inr ⟨1,r1,by simp,⟨_,rfl⟩,hr1,hb⟩) (fun _ h=>h.elim) (by simpa using W.len) (by simp) (fun i hi hl=>(two rfl hi hl).elim)
  (fun i o hi ho=>(two rfl hi ⟨o,ho⟩).elim) (fun _ _ h=>h) (fun b o h1 h2=>by rw[h1]at h2;cases h2)
  (fun i o r hi ho hr=>?_) (fun i j ri rj hij hi hj hli hlj=>?_) (fun i hi hA hl=>?_)
 ·rcases xC.1 hi with rfl|hi
  ·have ho:some (AO.cells 134 [.ptr 0 0,.undef])=some o:=ho;cases ho;rw[hr0]at hr;cases hr;obtain⟨c0,cr,rfl,⟨f,hf,hfv,rfl⟩,c1,cr1,rfl,h1,hcr⟩:=hrel;have hcr:cr1=[]:=hcr;subst hcr;rw[hlk0]at hf;cases hf;refine⟨⟨hv0,hfp0,[.pointer (some ⟨r0.b,0,none⟩),c1],?_,_,_,rfl,⟨_,zL (o:=.cells 134 [.ptr 0 0,.undef]) rfl hr0,hv0,rfl⟩,_,_,rfl,trivial,rfl⟩,fun b hb=>⟨W.sepR 0 r0 ⟨_,rfl⟩ hr0 b hb,.inr (.inl ⟨0,r0,by simp,⟨_,rfl⟩,hr0,hb⟩)⟩⟩;rw[k.block r0.b (zR hcs) (fun hm=>W.sep 0 1 r0 r1 (by simp) ⟨_,rfl⟩ ⟨_,rfl⟩ hr0 hr1 r0.b (by rw[hfp0];simp) hm)];exact hcs
  ·have hi:i=1:=by simpa using hi
   subst hi;exact (dead1 ⟨o,ho⟩).elim
 ·have z:∀x,x∈[0,1]->live [some (.cells 134 [.ptr 0 0,.undef]),none] x->x=0:=by
   intro x hx hl;rcases xC.1 hx with rfl|hx
   ·rfl
   ·have hx:x=1:=by simpa using hx
    subst hx;exact (dead1 hl).elim
  exact (hij ((z i hi hli).trans (z j hj hlj).symm)).elim
 ·rcases xC.1 hA with rfl|hA
  ·show Am.look G _ 0=Am.look G _ 0;rw[zL (o:=.cells 134 [.ptr 0 0,.undef]) rfl hr0,zL (o:=.cells 134 [.ptr 0 0,v]) rfl hr0];rfl
  ·have hA:i=1:=by simpa using hA
   subst hA;exact (dead1 hl).elim
theorem zg6{b:Nat}{p V:Value}{l:mQ}{r:Res}{w:World}(hbk:w.heap[b]? =some (.cells #[p,V] 134 (0,0)))(hrow:RowAt w r 5 1 l.length (fun cs=>cs=l.map u8V))(hV:V=j8 r l.length)(hc:r.cap<=maxLen\/l.length<=maxLen):
  Calls Tryz.prog 62 #[.pointer (some ⟨b,0,none⟩)] w fun e w'=>e=.returned (.string (bs l))/\Keeps r.fp w w':=by
 subst hV;have hlm:l.length<=9223372036854775807:=by
  rcases hrow with⟨_,h0,_⟩|⟨_,_,hle,_⟩
  ·omega
  ·rcases hc with hc|hc
   ·exact mM hle hc
   ·exact hc
 rcases hrow with⟨g1,g2,g3,g4⟩|⟨g1,g2,g3,cs,tl,fr,g4,g5,g6,g7,g8⟩
 ·have hl:l=[]:=xG.1 g2;subst hl;rw[show j8 r ([]:mQ).length=.slice none 0 0 by simp[j8,g1]]at hbk;exact (zdV b p w hbk).mono fun e w' ⟨he,hw⟩=>⟨he,by subst hw;exact Keeps.drawn w _⟩
 ·rw[show j8 r l.length=.slice (some ⟨r.b,0,none⟩) l.length r.cap by simp[j8,g1]]at hbk;rw[g2];have hd:Keeps [r.b] w w.drew:=Keeps.drawn w _;by_cases hl:l=[]
  ·subst hl;by_cases hcap:r.cap=0
   ·rw[hcap]at hbk;exact (zcJ b r.b p _ fr w hbk g4).mono fun e w' ⟨he,hw⟩=>⟨he,hw.wide⟩
   ·exact (zfq b r.b r.cap p w hcap hbk).mono fun e w' ⟨he,hw⟩=>⟨he,by subst hw;exact hd⟩
  ·have hg6:cs.length=l.length:=by rw[g5];simp
   refine(zg5 b r.b r.cap p _ fr l w hl hbk g4 g3 (by simp;omega) hlm (fun j x hj=>?_)).mono fun e w' ⟨he,hw⟩=>⟨he,?_⟩
   ·rw[ZH,mD];have hjl:j<l.length:=(wM.1 hj).1;simp only[World.cell?,g4];have:(cs++tl).toArray[j]? =some (u8V x):=by simp only[mB];rw[xA (by omega),g5,xJ,hj];rfl
    simpa[u8V]using this
   ·subst hw;refine hd.trans ⟨by unfold World.freeze;split<;>rfl,by unfold World.freeze;split<;>rfl,by unfold World.freeze;split<;>rfl,by unfold World.freeze;split<;>simp,fun k hk hne=>?_⟩;have hne:k≠r.b:=by simpa using hne
    unfold World.freeze;split
    ·rfl
    ·simp[Array.getElem?_modify,Ne.symm hne]
def zf7(l:mQ):Bool:=decide (l.length<=9223372036854775807)
def Vy(vs:List AV)(h:Heap):Option (Bool×mQ):=match vs,h with
 |[.ptr 0 0],[some (.cells 134 [.ptr 0 0,.rw 1]),some (.bytes 5 l)]=>some (false,l)
 |[.ptr 0 0],[some (.cells 134 [.ptr 0 0,.rwp 1]),some (.bytes 5 l)]=>some (true,l)
 |_,_=>none
def zcA(_N:Nat):Con:=Con6.c ⟨62,Bool×mQ,mQ,Vy,fun x=>chk (zf7 x.2) (some x.2),fun _ l=>⟨.str l,[some (.cells 134 [.ptr 0 0,.undef]),none]⟩⟩
theorem zdL(N:Nat):SoundC Tryz.prog GP (zcA N):=by
 intro args h x r hd hs;have hd:Vy args h=some x:=hd;have hs:chk (zf7 x.2) (some x.2)=some r:=hs;obtain⟨hm,hs⟩:=zg hs;cases hs;have hm:=of_decide_eq_true hm;have key:∀{v:AV}{l:mQ},l.length<=9223372036854775807->(∀(L:Lk)(R:Ro)(r1:Res)(V:Value),L 1=some ⟨r1.b,r1.virt,r1.cap,l.length⟩->Rel L R v V->V=j8 r1 l.length)->
   ∀R G w vs,GP R->WRel R G [some (.cells 134 [.ptr 0 0,v]),some (.bytes 5 l)] w->RelL (Am.look G [some (.cells 134 [.ptr 0 0,v]),some (.bytes 5 l)]) R [.ptr 0 0] vs->
   Calls Tryz.prog 62 vs.toArray w fun e w'=>∃V R' G',e=.returned V/\WRel R' G' [some (.cells 134 [.ptr 0 0,.undef]),none] w'/\
   Since ⟨R,Am.look G [some (.cells 134 [.ptr 0 0,v]),some (.bytes 5 l)],fpsAll G [some (.cells 134 [.ptr 0 0,v]),some (.bytes 5 l)],w,2⟩ R' G' [some (.cells 134 [.ptr 0 0,.undef]),none] w'/\Rel (Am.look G' [some (.cells 134 [.ptr 0 0,.undef]),none]) R' (.str l) V:=by
  intro v l hlm hv R G w vs hGP W hargs;have F:=ZG W;obtain⟨r0,hr0,hlk0,hv0,hfp0,cs,hcs,hrel⟩:=F.look_live (i:=0) rfl;obtain⟨r1,hr1,hlk1,hrow⟩:=F.look_live (i:=1) rfl;obtain⟨u,us,rfl,⟨f,hf,_,rfl⟩,hus⟩:=hargs;have hus:us=[]:=hus;subst hus;rw[hlk0]at hf;cases hf;obtain⟨c0,cr,rfl,h0,c1,cr1,rfl,h1,hcr⟩:=hrel;have hcr:cr1=[]:=hcr;subst hcr;have hV:=hv _ _ r1 _ hlk1 h1;simp only[ObjRel]at hrow;refine(zg6 hcs hrow hV (.inr hlm)).mono fun e w' ⟨he,hk⟩=>?_
  obtain⟨g1,g2⟩:=zjO W hr1 hk;exact⟨_,R,G,he,g1,g2,rfl⟩
 unfold Vy at hd;split at hd
 ·cases hd;refine⟨ji (by kernel_rfl),key hm fun L R r1 V hL hV=>?_⟩;obtain⟨f,hf,h2,h3⟩:=hV;rw[hL]at hf;cases hf;unfold j8;cases hv:r1.virt with
  |true=>simp only[if_true];exact (h2 hv).2
  |false=>simp only[xI,if_false];exact h3 hv
 ·cases hd;refine⟨ji (by kernel_rfl),key hm fun L R r1 V hL hV=>?_⟩;obtain⟨f,hf,h2,_,h3⟩:=hV;rw[hL]at hf;cases hf;unfold j8;rw[if_neg (by simpa using h2)];exact h3
 ·cases hd
def Q9(vs:List AV)(h:Heap):Option Unit:=match vs,h with
 |[.ptr 0 0],[some (.cells 134 [.nilp,.nils])]=>some ()
 |_,_=>none
def WN(_N:Nat):Con:=Con6.c ⟨62,Unit,Unit,Q9,fun _=>some (),fun _ _=>⟨.str [],[some (.cells 134 [.nilp,.nils])]⟩⟩
theorem zcB(N:Nat):SoundC Tryz.prog GP (WN N):=by
 intro args h x r hd hs;have hd:Q9 args h=some x:=hd;unfold Q9 at hd;split at hd
 ·cases hd;refine⟨ji (by kernel_rfl),fun R G w vs hGP W hargs=>?_⟩;have F:=ZG W;obtain⟨r0,hr0,hlk0,hv0,hfp0,cs,hcs,hrel⟩:=F.look_live (i:=0) rfl;obtain⟨u,us,rfl,⟨f,hf,_,rfl⟩,hus⟩:=hargs;have hus:us=[]:=hus;subst hus;rw[hlk0]at hf;cases hf;obtain⟨c0,cr,rfl,h0,c1,cr1,rfl,h1,hcr⟩:=hrel;have hcr:cr1=[]:=hcr;subst hcr;have h1:c1=.slice none 0 0:=h1;subst h1;refine(zdV r0.b c0 w hcs).mono fun e w' ⟨he,hw⟩=>?_
  subst hw;have F':=F.keep (Keeps.drawn w (w.drew).drawn:Keeps [] w w.drew);exact⟨_,R,G,he,F'.wrel,F'.since,rfl⟩
 ·cases hd
end Go.Proofs.C06
end
section
set_option maxHeartbeats 4000000
set_option maxRecDepth 100000
namespace Go.Proofs.C06
open Go Go.RowKit Go.Vc Go.Am
def zkg(b n:Nat)(w:World)(e:Ending)(w':World):Prop:=e=.returned (.tuple #[])/\Keeps [b] w w'/\∃g cap cs,w.heap.size<=g/\n<=cap/\cs.size=cap/\w'.heap[b]? =some (.cells #[.pointer (some ⟨b,0,none⟩),.slice (some ⟨g,0,none⟩) 0 cap] 134 (0,0))/\w'.heap[g]? =some (.cells cs 5 (0,0))
theorem zif{b n:Nat}{w:World}{cs:Array Value}(hbk:w.heap[b]? =some (.cells #[.pointer (some ⟨b,0,none⟩),.slice none 0 0] 134 (0,0)))(hle:n<=cs.size):
  zkg b n w (.returned (.tuple #[])) ((w.setCell ⟨b,1,none⟩ (.slice (some ⟨w.heap.size,0,none⟩) 0 cs.size)).alloc (.cells cs 5)).drew.drew.drew:=by
 have hlt:b<w.heap.size:=zR hbk;obtain⟨s1,s2⟩:=Jf (o:=1) (v:=.slice (some ⟨w.heap.size,0,none⟩) 0 cs.size) (cs:=[.pointer (some ⟨b,0,none⟩),.slice none 0 0]) hbk;have hz:(w.setCell ⟨b,1,none⟩ (.slice (some ⟨w.heap.size,0,none⟩) 0 cs.size)).heap.size=w.heap.size:=by simp[World.setCell]
 generalize w.setCell ⟨b,1,none⟩ (.slice (some ⟨w.heap.size,0,none⟩) 0 cs.size)=W at s1 s2 hz;have kd:Keeps [b] W (W.alloc (.cells cs 5)).drew.drew.drew:=(Keeps.of_below (((((Below.refl _ W).alloc (wP _) _).drew).drew).drew)).mono (by simp);refine⟨rfl,s2.trans kd,w.heap.size,cs.size,cs,wP _,hle,rfl,?_,?_⟩
 ·exact (Lib.alloc_old W _ b (by omega)).trans s1
 ·rw[<-hz];exact heap_alloc_new W _
theorem zgp(b n:Nat)(w:World)(hbk:w.heap[b]? =some (.cells #[.pointer (some ⟨b,0,none⟩),.slice none 0 0] 134 (0,0)))(hn:n<=281474976710656):
  Calls Tryz.prog 169 #[.pointer (some ⟨b,0,none⟩),.int .i64 n] w (zkg b n w):=by
 have mixed:=Tryz.checked.mixed;have t33:Tryz.prog.underlying 22=some (.slice 5):=by kernel_rfl
 obtain⟨cs,hrun,hle,hmax⟩:=Lib.run_makeNoZero (P:=Tryz.prog) w.drew #[3] 22 5 t33 n hn;have hw:IntKind.i64.wrap (IntKind.i64.wrap 0+(n:Int))=n:=by rw[IntKind.wrap_i64,IntKind.wrap_i64];omega
 have hcall:(callFunc 143 #[.int .i64 (IntKind.i64.wrap (IntKind.i64.wrap 0+(n:Int)))]).run Tryz.prog w.drew=.ok (.value (.slice (some ⟨w.drew.heap.size,0,none⟩) n cs.size)) (w.drew.drew.drew.alloc (.cells cs 5)):=by rw[hw,run_callFunc_extern Tryz.func143 (by kernel_rfl) (by kernel_rfl) (by kernel_rfl) (e:=Extern.BytealgMakeNoZero.makeNoZero #[3] #[22]) (by kernel_rfl),hrun];rfl
 have hlt:b<w.heap.size:=zR hbk;have c1:w.drew.cell? ⟨b,1,none⟩=some (.slice none 0 0):=by have:w.drew.heap[b]? =_:=hbk;rw[Lib.cell_of_heap this];rfl
 have hb2:(w.alloc (.cells cs 5)).heap[b]? =some (.cells #[.pointer (some ⟨b,0,none⟩),.slice none 0 0] 134 (0,0)):=(Lib.alloc_old w _ b hlt).trans hbk;have c2:(w.alloc (.cells cs 5)).cell? ⟨b,1,none⟩=some (.slice none 0 0):=by rw[Lib.cell_of_heap hb2];rfl
 have f2:(w.alloc (.cells cs 5)).frozen? ⟨b,1,none⟩=false:=Lib.frozen_of_heap hb2 1;have hsz:∃j,Tryz.prog.info? 5=some j/\j.size=1:=⟨_,rfl,by kernel_rfl⟩
 obtain⟨j,hj,hjs⟩:=hsz;have hcopy:∀W:World,(Builtin.copy_ #[22,22] 3 #[.slice (some ⟨w.heap.size,0,none⟩) 0 cs.size,.slice none 0 0]).run Tryz.prog W=.ok (goInt 0) W:=
  fun W=>run_copy_none W 22 22 3 5 _ _ 0 cs.size 0 0 t33 (by kernel_rfl) rfl
 have hfin:=zif (w:=w) hbk hle;clear hw hj hjs
 go_enter Tryz.func169,Tryz.ntmps169
 go_wp2
 go_region_o
 all_goals (go_wp2;go_end0;exact hfin)
end Go.Proofs.C06
end
section
set_option maxHeartbeats 4000000
set_option maxRecDepth 100000
namespace Go.Proofs.C06
open Go Go.RowKit Go.Vc Go.Am
def Xa(vs:List AV)(h:Heap):Option Int:=match vs,h with
 |[.ptr 0 0,.int .i64 n],[some (.cells 134 [.ptr 0 0,.nils])]=>some n
 |_,_=>none
def zaf(n:Int):Bool:=match n with
 |.ofNat m=>Nat.ble 1 m&&Nat.ble m 281474976710656
 |_=>false
theorem zcX{n:Int}(h:zaf n=true):1<=n/\n<=281474976710656:=by
 unfold zaf at h;split at h
 ·simp only[wN,Nat.ble_eq]at h;simp only[mP];omega
 ·cases h
def WO(_N:Nat):Con:=Con6.c ⟨169,Int,Unit,Xa,fun n=>chk (zaf n) (some ()),fun _ _=>⟨.tup [],[some (.cells 134 [.ptr 0 0,.rwp 1]),some (.bytes 5 [])]⟩⟩
theorem zcC(N:Nat):SoundC Tryz.prog GP (WO N):=by
 intro args h (n:Int) r hd hs;have hd:Xa args h=some n:=hd;have hs:chk (zaf n) (some ())=some r:=hs;obtain⟨hm,hs⟩:=zg hs;obtain⟨hm1,hm2⟩:=zcX hm;unfold Xa at hd;split at hd
 ·cases hd;refine⟨ji (by kernel_rfl),fun R G w vs hGP W hargs=>?_⟩;have F:=ZG W;obtain⟨r0,hr0,hlk0,hv0,hfp0,cs,hcs,hrel⟩:=F.look_live (i:=0) rfl;obtain⟨u,us,rfl,⟨f,hf,_,rfl⟩,u2,us2,rfl,rfl,hus⟩:=hargs;have hus:us2=[]:=hus;subst hus;rw[hlk0]at hf;cases hf;obtain⟨c0,cr,rfl,⟨f,hf,_,rfl⟩,c1,cr1,rfl,h1,hcr⟩:=hrel;have hcr:cr1=[]:=hcr;subst hcr;have h1:c1=.slice none 0 0:=h1;subst h1;rw[hlk0]at hf;cases hf;obtain⟨k,rfl⟩:∃k:Nat,n=k:=⟨n.toNat,by omega⟩
  refine(zgp r0.b k w hcs (by omega)).mono fun e w' ⟨he,kp,g,cap,cells,hg,hcap,hsz,hb',hg'⟩=>?_
  have hlt:r0.b<w.heap.size:=zR hcs;have hG:G.length=1:=by simpa using W.len
  have hG0:∀r',[r0,⟨g,false,cap,[g]⟩][0]? =some r'->r'=r0:=fun r' h=>by simpa using h.symm
  have l0:Am.look [r0,(⟨g,false,cap,[g]⟩:Res)] [some (.cells 134 [.ptr 0 0,.rwp 1]),some (.bytes 5 [])] 0=some ⟨r0.b,r0.virt,r0.cap,0⟩:=rfl;have l1:Am.look [r0,(⟨g,false,cap,[g]⟩:Res)] [some (.cells 134 [.ptr 0 0,.rwp 1]),some (.bytes 5 [])] 1=some ⟨g,false,cap,0⟩:=rfl;have two:∀{h:Heap}{i:Nat},h.length=2->i∉[0,1]->¬live h i:=fun hl hi hlv=>by have:=jf hlv;simp at hi;omega
  obtain⟨s1,s2⟩:=yj (R':=R) (G':=[r0,⟨g,false,cap,[g]⟩]) (h':=[some (.cells 134 [.ptr 0 0,.rwp 1]),some (.bytes 5 [])]) (A:=[0,1]) (Fr:=fun _=>False) F.wrel F.since kp
   (fun b hb=>.inr ⟨0,r0,by simp,⟨_,rfl⟩,hr0,by rw[hfp0];exact hb⟩) (fun _ h=>h.elim) rfl (by simp) (fun i hi hl=>(two rfl hi hl).elim)
   (fun i o hi ho=>(two rfl hi ⟨o,ho⟩).elim) (fun _ _ h=>h) (fun b o h1 h2=>by rw[h1]at h2;cases h2)
   (fun i o r hi ho hr=>by
    rcases xC.1 hi with rfl|hi
    ·have ho:some (AO.cells 134 [.ptr 0 0,.rwp 1])=some o:=ho;cases ho;have hr:=hG0 _ hr;subst hr;exact⟨⟨hv0,hfp0,[.pointer (some ⟨r.b,0,none⟩),.slice (some ⟨g,0,none⟩) 0 cap],hb',_,_,rfl,⟨_,l0,hv0,rfl⟩,_,_,rfl,⟨_,l1,rfl,by show 1<=cap;omega,rfl⟩,rfl⟩,
      fun b hb=>⟨W.sepR 0 r ⟨_,rfl⟩ hr0 b hb,.inr (.inl ⟨0,r,by simp,⟨_,rfl⟩,hr0,hb⟩)⟩⟩
    ·have hi:i=1:=by simpa using hi
     subst hi;have ho:some (AO.bytes 5 [])=some o:=ho;cases ho;have hr:some (⟨g,false,cap,[g]⟩:Res)=some r:=hr;cases hr;refine⟨.inr ⟨rfl,rfl,kP _,[],cells.toList,(0,0),by simpa using hg',rfl,rfl,by have:=hsz;simp;omega,wP _,fun j _ h2=>by omega⟩,fun b hb=>?_⟩;have hb:b=g:=by simpa using hb
     subst hb;refine⟨?_,.inr (.inr hg)⟩;cases hrb:R b with
     |none=>rfl
     |some ob=>have:=zR (W.ro _ _ hrb);omega)
   (fun i j ri rj hij hi hj hli hlj hri hrj b hb=>by
    have z:∀x,x∈[0,1]->x=0\/x=1:=by simp
    have f0:∀r,[r0,(⟨g,false,cap,[g]⟩:Res)][0]? =some r->r.fp=[r0.b]:=fun r h=>by have h:=hG0 _ h;subst h;exact hfp0
    have f1:∀r,[r0,(⟨g,false,cap,[g]⟩:Res)][1]? =some r->r.fp=[g]:=fun r h=>by have h:some (⟨g,false,cap,[g]⟩:Res)=some r:=h;cases h;rfl
    rcases z i hi with rfl|rfl<;>rcases z j hj with rfl|rfl
    ·exact (hij rfl).elim
    ·rw[f0 _ hri]at hb;rw[f1 _ hrj];simp only[wQ]at hb⊢;omega
    ·rw[f1 _ hri]at hb;rw[f0 _ hrj];simp only[wQ]at hb⊢;omega
    ·exact (hij rfl).elim)
   (fun i hi hA hl=>by
    have hi:i<1:=hi;have hi:i=0:=by omega
    subst hi;show Am.look _ _ 0=Am.look G _ 0;rw[l0,zL (o:=.cells 134 [.ptr 0 0,.nils]) rfl hr0];rfl)
  exact⟨_,R,_,he,s1,s2,⟨[],rfl,rfl⟩⟩
 ·cases hd
end Go.Proofs.C06
end
