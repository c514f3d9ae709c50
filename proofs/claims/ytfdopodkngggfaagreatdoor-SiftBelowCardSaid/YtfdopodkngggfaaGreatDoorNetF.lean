/- Nets, cells, flags: what the functions do (part 6). -/
import Derived.Test.YtfdopodkngggfaaGreatDoorNetE
import Derived.ChangeSlices
import Derived.ChangeArms
import Derived.ChangeSame
open Go.Ab.Tryz
set_option maxHeartbeats 4000000
set_option linter.defProp false
set_option linter.unusedVariables false
set_option linter.unusedSimpArgs false
section
namespace Go.Ab
open Go.ChangeShapes Go.WideShapes Go.RowKit
section
variable{H:Type}{enc:TypeId×Value->H}{P:Program}
theorem fl_slW{W:World}{base n:Nat}{s e:TypeId}{c:Value}(d:P.underlying s=some (.slice e))(b:Cell.okWide P W .any base s c):Fl (ij n c):=by
 unfold Cell.okWide at b
 rw [d]at b
 cases c with
 | slice a f g=>
   cases a with
   | none=>
     simp only [Cell.ok,d]at b
     cases f with
     | zero=>cases g with
       |zero=>exact a9
       |succ k=>exact b.elim
     |succ k=>exact b.elim
   | some a=>
     simp only [Cell.ok,d]at b
     obtain⟨h,_⟩:=b
     simp only [ij,if_pos h]
     split<;>exact a9
 |_=>simp [Cell.ok,d]at b
theorem len8{α:Type}{l:List α}(h:l.length=8): ∃a b c d e f g i,l=[a,b,c,d,e,f,g,i]:=by
 match l,h with
 | [a,b,c,d,e,f,g,i],_=>exact⟨a,b,c,d,e,f,g,i,rfl⟩
theorem xX{W:World}{base:Nat}{t f D Q e7 i o s:TypeId}{E F G I J K L f7:Field}{v:Value}{sp:Nat->Bool}{hd:Bool}{d:DataW H}{p:List MemPlace}(V:P.underlying t=some (.struct #[E,F,G,I,J,K,L,f7]))(o0:E.offset=0)(o1:F.offset=1)(o2:G.offset=2)(o3:I.offset=3)(o4:J.offset=4)(o5:K.offset=5)(o6:L.offset=6)
 (t0:E.type=f) (t1:F.type=f) (t2:G.type=f) (t3:I.type=i) (t4:J.type=i) (t5:K.type=o) (t6:L.type=s) (h0:P.underlying f=some (.slice Q)) (N:P.underlying i=some (.int .u8)) (h5:P.underlying o=some (.int .i8)) (h6:P.underlying s=some .bool) (h7:P.underlying D=some (.slice e7))
 (R:P.underlying Q=some (.int .u8)) (c0:P.cellsOf Q=1) (S:P.cellsOf f=1) (X:P.cellsOf i=1) (d5:P.cellsOf o=1) (d6:P.cellsOf s=1) (T:P.cellsOf t=8) (U:P.cellTypes P.depth t=some [f,f,f,i,i,o,s,D])
 (g:Value.okWide P W .any base t v) (h:DataW.Trod enc P W 0 sp hd t v d p):
 ∃ (a b c e:Value) (x y z:Int) (q:Bool) (B O M:List Int),v=.agg #[a,b,c,.int .u8 x,.int .u8 y,.int .i8 z,.bool q,e]/\SlW (hpW W) .u8 (ij W.heap.size a) B/\SlW (hpW W) .u8 (ij W.heap.size b) O/\SlW (hpW W) .u8 (ij W.heap.size c) M/\Fl (ij W.heap.size e)/\
   (∀z∈O,(Lit.int .u8 z).wf=true)/\(∀z∈M,(Lit.int .u8 z).wf=true)/\(Lit.int .u8 x).wf=true/\(Lit.int .u8 y).wf=true:=by
 unfold Value.okWide at g
 rw [V]at g
 obtain⟨cs,rfl,m,ts,Y,_,A⟩:=g
 rw [U]at Y
 cases Y
 rw [T]at m
 obtain⟨l⟩:=cs
 simp only [List.size_toArray]at m
 obtain⟨a,b,c,x,y,z,q,e,rfl⟩:=len8 m
 obtain⟨Z,h⟩:=h
 obtain⟨xs,n,_,_,hl,C,hf⟩:=DataW.trod_struct V h
 obtain⟨y0,y1,y2,y3,y4,y5,y6,y7,rfl⟩:=len8 (by rw [C];rfl:xs.length=8)
 have q0:=hf 0 E rfl
 have q1:=hf 1 F rfl
 have q2:=hf 2 G rfl
 have q3:=hf 3 I rfl
 have q4:=hf 4 J rfl
 have q5:=hf 5 K rfl
 have q6:=hf 6 L rfl
 rw [o0,t0,S]at q0
 rw [o1,t1,S]at q1
 rw [o2,t2,S]at q2
 rw [o3,t3,X]at q3
 rw [o4,t4,X]at q4
 rw [o5,t5,d5]at q5
 rw [o6,t6,d6]at q6
 have r: ∀(j:Nat) t v,[f,f,f,i,i,o,s,D][j%8]? =some t->[a,b,c,x,y,z,q,e][j]? =some v->Cell.okWide P W .any base t v:=fun j t v h1 h2=>by
  obtain⟨u,N,h4⟩:=A j v (by simpa using h2)
  obtain rfl:t=u:=Option.some.inj (h1.symm.trans N)
  exact h4
 obtain⟨B,hB,_,_⟩:=oa h0 R c0 (r 0 f a rfl rfl) q0
 obtain⟨O,hO,wO,_⟩:=oa h0 R c0 (r 1 f b rfl rfl) q1
 obtain⟨M,hM,wM,_⟩:=oa h0 R c0 (r 2 f c rfl rfl) q2
 have hF:Fl (ij W.heap.size e):=fl_slW h7 (r 7 D e rfl rfl)
 obtain⟨u,e2,_,wu⟩:=DataW.trod_int N q3
 obtain⟨v,e3,_,wv⟩:=DataW.trod_int N q4
 obtain⟨w,e4,_,ww⟩:=DataW.trod_int h5 q5
 obtain⟨k,e5,_⟩:=DataW.trod_bool h6 q6
 cases e2
 cases e3
 cases e4
 cases e5
 exact⟨a,b,c,e,u,v,w,k,B,O,M,rfl,hB,hO,hM,hF,wO,wM,wu,wv⟩
end
end Go.Ab

end
