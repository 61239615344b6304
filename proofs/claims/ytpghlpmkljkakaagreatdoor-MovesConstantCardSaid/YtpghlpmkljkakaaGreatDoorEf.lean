/-
  A part of the proof of the laws on moves.
-/
import Derived.Test.YtpghlpmkljkakaaGreatDoorEe
section
set_option maxRecDepth 100000
namespace Go.Proofs.C06
open Go Go.RowKit Go.Vc Go.Am Go.Dg
def okB(c:UInt8):Bool:=([66,48,47,44,46,36,43,45,57,90,42,86]:List UInt8).contains c
structure BF(fl:UInt8)(b:List UInt8):Prop where
 sy:∀c∈b,okB c=true
 fl4:fl=0∨fl=36∨fl=43∨fl=45
 two:fl≠0→1<b.count fl
 st:fl≠0→(42:UInt8)∉b
 fr:fl≠0→∃x y,b=x++fl::y∧∀c∈x,nb fl c=true
theorem EdF.chars{sg0:Nat}{q:List UInt8}{dg sc:Nat}{sn:Bool}{s1 m1:List UInt8}{c:UInt8}{k m:Nat}{pt:List UInt8}{x:UInt8}{f:Nat}{e:List UInt8}(h:EdF sg0 q dg sc sn s1 m1 c k m pt x f e){y:UInt8}(hy:y∈q):
  okB y=true∧(zeG c k→y≠42):=by
 rw[h.eq]at hy;simp only[List.mem_append,List.mem_replicate]at hy;rcases hy with hy|hy|hy|hy|hy|hy|hy
 ·rcases h.hs1 with r|r|r<;>rw[r]at hy<;>simp at hy<;>subst hy<;>exact⟨by decide,fun _=>by decide⟩
 ·rcases h.hm1 with r|r<;>rw[r]at hy<;>simp at hy<;>subst hy<;>exact⟨by decide,fun _=>by decide⟩
 ·obtain⟨h0,rfl⟩:=hy;rcases h.run with r|r|r|⟨_,r⟩
  ·exact absurd r h0
  ·subst r;exact⟨by decide,fun _=>by decide⟩
  ·subst r;exact⟨by decide,fun hf=>by rcases hf.2 with r|r|r<;>cases r⟩
  ·rcases r with r|r|r<;>subst r<;>exact⟨by decide,fun _=>by decide⟩
 ·obtain⟨_,rfl⟩:=hy;exact⟨by decide,fun _=>by decide⟩
 ·rcases h.hpt with⟨r,_⟩|⟨r,_⟩|r<;>rw[r]at hy<;>simp at hy<;>subst hy<;>exact⟨by decide,fun _=>by decide⟩
 ·obtain⟨h0,rfl⟩:=hy;rcases h.fx (by omega)with r|⟨_,⟨h1,r⟩|⟨h1,r⟩⟩
  ·subst r;exact⟨by decide,fun _=>by decide⟩
  ·subst r;rcases h.run with r|r|r|⟨_,r⟩
   ·omega
   ·subst r;exact⟨by decide,fun _=>by decide⟩
   ·subst r;exact⟨by decide,fun hf=>by rcases hf.2 with r|r|r<;>cases r⟩
   ·rcases r with r|r|r<;>subst r<;>exact⟨by decide,fun _=>by decide⟩
  ·refine⟨?_,fun hf=>by have:=hf.1;omega⟩;rcases r with r|r<;>subst r<;>decide
 ·rcases h.he with r|r|r<;>rw[r]at hy<;>simp at hy<;>subst hy<;>exact⟨by decide,fun _=>by decide⟩
end Go.Proofs.C06
end
section
set_option maxRecDepth 100000
namespace Go.Proofs.C06
open Go Go.RowKit Go.Vc Go.Am Go.Dg
end Go.Proofs.C06
end
