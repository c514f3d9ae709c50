/- Nets, cells, flags: what the functions do (part 6). -/
import Derived.Test.YtdicllcgofpggaaGreatDoorNetE
import Derived.ChangeSlices
import Derived.ChangeArms
import Derived.ChangeSame
open Go.Ab.Tryz
set_option maxHeartbeats 4000000
set_option linter.defProp false
set_option linter.unusedVariables false
set_option linter.unusedSimpArgs false
section
namespace Go.Ab
open Go.ChangeShapes Go.WideShapes Go.RowKit
section
variable{H:Type}{enc:TypeId×Value->H}{P:Program}
theorem len5j{f:Type}{l:List f}(h:l.length=5): ∃a b c d e,l=[a,b,c,d,e]:=by
 match l,h with
 | [a,b,c,d,e],_=>exact⟨a,b,c,d,e,rfl⟩
theorem wf64{z:Int}(h:(Lit.int .i64 z).wf=true): -9223372036854775808<=z/\z<=9223372036854775807:=by unfold Lit.wf at h;simp only [Bool.and_eq_true,decide_eq_true_eq]at h;exact h
theorem open_d28{W:World}{base:Nat}{t f k D E m:TypeId}{s w y A C:Field}{v:Value}{sp:Nat->Bool}{hd:Bool}{d:DataW H}{p:List MemPlace}(R:P.underlying t=some (.struct #[s,w,y,A,C]))(o0:s.offset=0)(o1:w.offset=1)(o2:y.offset=2)(o3:A.offset=3)(o4:C.offset=4)
 (t0:s.type=f) (t1:w.type=f) (t2:y.type=f) (t3:A.type=m) (t4:C.type=k) (F:P.underlying f=some (.slice D)) (G:P.underlying m=some (.int .u8)) (I:P.underlying k=some (.slice E))
 (J:P.underlying D=some (.int .u8)) (g4:P.underlying E=some (.int .i64)) (c0:P.cellsOf D=1) (c4:P.cellsOf E=1) (K:P.cellsOf f=1) (d3:P.cellsOf m=1) (d4:P.cellsOf k=1) (L:P.cellsOf t=5) (Q:P.cellTypes P.depth t=some [f,f,f,m,k])
 (g:Value.okWide P W .any base t v) (h:DataW.Trod enc P W 0 sp hd t v d p):
 ∃ (a b c e:Value) (x:Int) (B O M N:List Int),v=.agg #[a,b,c,.int .u8 x,e]/\SlW (hpW W) .u8 (jF W.heap.size a) B/\SlW (hpW W) .u8 (jF W.heap.size b) O/\SlW (hpW W) .u8 (jF W.heap.size c) M/\SlW (hpW W) .i64 (jF W.heap.size e) N/\
   (∀z∈O,(Lit.int .u8 z).wf=true)/\(∀z∈M,(Lit.int .u8 z).wf=true)/\(∀z∈N,(Lit.int .i64 z).wf=true)/\(Lit.int .u8 x).wf=true:=by
 unfold Value.okWide at g;rw [R]at g;obtain⟨cs,rfl,i,ts,S,_,o⟩:=g;rw [Q]at S;cases S;rw [L]at i;obtain⟨l⟩:=cs;simp only [List.size_toArray]at i;obtain⟨a,b,c,x,e,rfl⟩:=len5j i;obtain⟨T,h⟩:=h;obtain⟨xs,n,_,_,hl,q,hf⟩:=DataW.trod_struct R h;obtain⟨y0,y1,y2,y3,y4,rfl⟩:=len5j (by rw [q];rfl:xs.length=5);have U:=hf 0 s rfl;have V:=hf 1 w rfl;have X:=hf 2 y rfl;have Y:=hf 3 A rfl;have Z:=hf 4 C rfl;rw [o0,t0,K]at U;rw [o1,t1,K]at V;rw [o2,t2,K]at X;rw [o3,t3,d3]at Y;rw [o4,t4,d4]at Z;have r: ∀(j:Nat) t v,[f,f,f,m,k][j%5]? =some t->[a,b,c,x,e][j]? =some v->Cell.okWide P W .any base t v:=fun j t v h1 h2=>by obtain⟨u,G,I⟩:=o j v (by simpa using h2);obtain rfl:t=u:=Option.some.inj (h1.symm.trans G);exact I
 obtain⟨B,hB,_,_⟩:=nJ F J c0 (r 0 f a rfl rfl) U;obtain⟨O,hO,wO,_⟩:=nJ F J c0 (r 1 f b rfl rfl) V;obtain⟨M,hM,wM,_⟩:=nJ F J c0 (r 2 f c rfl rfl) X;obtain⟨N,hN,wN,_⟩:=nJ I g4 c4 (r 4 k e rfl rfl) Z;obtain⟨u,e2,_,wu⟩:=DataW.trod_int G Y;cases e2;exact⟨a,b,c,e,u,B,O,M,N,rfl,hB,hO,hM,hN,wO,wM,wN,wu⟩
end
end Go.Ab

end
