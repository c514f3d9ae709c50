/- Nets, cells, flags: what the functions do (part 1). -/
import Derived.Test.YtpnmkakfejadbaaGreatDoorKdv
open Go.Ab.Tryz
open Go.Ab.Tryz renaming abEnv->zM
open List renaming getD_eq_getElem?_getD->zO,range->Xa,take->Xd,drop->Xe,getElem?_eq_getElem->Xf,replicate->Xh,mem_of_getElem?->Xl,getElem?_map->Xn,flatMap_eq_foldl->Xq,getElem?_append_right->Xr,length_set->Xs,ext_getElem?->Xt,length_append->Xu,mem_append_left->Xv,getElem_mem->Xw,flatMap_append->Xx,getElem?_eq_none->Xy,getElem?_append_left->XB,drop_zero->XE,append_nil->XG,mem_append_right->XH,nodup_append->XI,map_cons->XJ,getElem?_replicate->XK,take_succ_cons->XL,length_take->XM,map_eq_flatMap->XR,mem_cons->XS,getElem?_set->XU,take_zero->XV,getElem?_append->XW,length_flatMap->XY,map_const'->XZ,nodup_cons->X6,not_mem_nil->X8,length_singleton->Yb,length_replicate->Yc,range_succ->Yd,length_nil->Ye,take_append_of_le_length->Yh,filterMap_nil->Yi,drop_eq_getElem_cons->Yj,map_nil->Yk,length_cons->Ym,map_set->Yn,getElem?_cons_zero->Yp,getElem?_cons_succ->Yq,length_map->Yt,mem_range->Yu,length_filter_le->Yv,mem_of_mem_take->Yy,mem_cons_of_mem->Yz,drop_succ_cons->YA,replicate_succ->YB,getElem?_range->YC,take_replicate->YD,replicate_zero->YE
open Int renaming cast_ofNat_Int->Xb,toNat_natCast->XF,tmod_eq_emod_of_nonneg->XX,ofNat_eq_natCast->Yx,ofNat->YF
open Nat renaming lt_of_succ_le->Xc,zero_add->Xi,mul_one->Xj,le_trans->Xk,zero_mul->Xm,ble_eq_true_of_le->Xo,one_mul->Xp,le_refl->XD,zero_le->XP,lt_of_lt_of_le->XT,beq->X7,ble->X9,eq_of_beq_eq_true->Ya,sub_self->Yf,beq_refl->Yl,le_total->Yo,add_sub_cancel_left->Yr,zero_ne_one->Ys,mul_le_mul_right->Yw,le_of_lt->YG
open And renaming intro->Xg
open Option renaming getD_some->Xz,isSome_none->XC,map_some->XN,getD_none->XQ,map_none->Yg
open Bool renaming and_true->XA
open Prod renaming fst->XO
set_option maxHeartbeats 4000000
set_option linter.defProp false
set_option linter.unusedVariables false
set_option linter.unusedSimpArgs false
namespace Go.Ab
variable{h h' h0 hq:Hp}
variable{N S a b b1 b2 br c cap d i j k lab m md n nb off q s t u v:Nat}
variable{A:Bool}
variable{Z args cs:List Value}
variable{P R:Nat->List Nat}
variable{E:Env}
variable{U e f p pn r w z:Value}
variable{body:Code}
variable{rs:List ResultVar}
variable{D M W:Nat->Prop}
variable{L:List (Nat×Ob)}
variable{G:List GL}
variable{ps:List (Nat×Nat)}
variable{g:FuncId}
variable{K:Nat->Option Int}
variable{x:Int}
variable{B F O xs:List Nat}
variable{y:Operand}
variable{ρ:Operand->Value}
variable{ex':Arc->Prop}
variable{o1 o2:Ob}
variable{kd:IntKind}
variable{cx:Cx}
variable{o:Oper}
variable{os:List Oper}
variable{key pi:Nat->Int}
variable{post:Array Value}
variable{J:Nat->Hp->List Nat->Prop}
variable{al:Nat->Bool}
theorem Si(a:OZ h):St NoM h h [] []:=St.init a
theorem aj{a b:Prop}(x:a)(y:b):a/\b:=⟨x,y⟩
set_option linter.defProp false in
def LC:=Xg @List.set_cons_zero.{0}<|Xg @List.set_cons_succ.{0}<|Xg @List.cons_append.{0}<|Xg @List.nil_append.{0}<|Xg @List.append_nil.{0}<|Xg @List.length_cons.{0}<|Xg @List.length_nil.{0}<|@Nat.add_zero
theorem lbt(h:X9 a b=true):a<=b:=Nat.le_of_ble_eq_true h
theorem ono:(1:Nat)≠0:=Nat.one_ne_zero
set_option linter.defProp false in
def LB:=Xg @if_true.{1}<|Xg @if_false.{1}<|Xg @eq_self.{1}<|Xg @List.map_cons.{0,0}<|Xg @List.map_nil.{0,0}<|Xg @List.append_nil.{0}<|Xg @List.nil_append.{0}<|Xg @List.cons_append.{0}<|Xg @List.getElem?_cons_zero.{0}<|Xg @List.getElem?_cons_succ.{0}<|Xg @List.set_cons_zero.{0}<|Xg @List.set_cons_succ.{0}<|Xg @List.length_cons.{0}<|Xg @List.length_nil.{0}<|Xg @Nat.add_zero<|Xg @Nat.zero_add<|Xg @Nat.mul_one<|Xg @Nat.zero_mul<|Xg @cond_true.{1}<|Xg @cond_false.{1}<|Xg @decide_true<|Xg @decide_false<|Xg @Bool.and_true<|Xg @Bool.and_false<|Xg @Bool.not_false<|Xg @Bool.not_true<|Xg @true_and<|Xg @and_true<|Xg @Option.isSome_some.{0}<|@List.map_toArray.{0,0}
open Go.Proofs
namespace Tryz
abbrev TQ0(i:TypeId)(A:Bool)(S:Nat)(Z:List Value):Prop:=zM.agg i=some A/\zM.sz i=some S/\zM.zero i=some Z/\eS zM i=some false
theorem kTQ0{i:TypeId}(h:(zM.agg i,zM.sz i,zM.zero i,eS zM i)=(some A,some S,some Z,some false)):TQ0 i A S Z:=by simpa only [Prod.mk.injEq]using h
abbrev TQ1(i:TypeId)(U:TypeDesc)(A:Bool)(S:Nat)(Z:List Value):Prop:=zM.und i=some U/\zM.agg i=some A/\zM.sz i=some S/\zM.zero i=some Z/\mY zM i=true
theorem kTQ1{i:TypeId}{U:TypeDesc}(h:(zM.und i,zM.agg i,zM.sz i,zM.zero i,mY zM i)=(some U,some A,some S,some Z,true)):TQ1 i U A S Z:=by simpa only [Prod.mk.injEq]using h
abbrev TQ2(i:TypeId)(U:TypeDesc)(A:Bool)(S:Nat)(Z:List Value):Prop:=zM.und i=some U/\zM.agg i=some A/\zM.sz i=some S/\zM.zero i=some Z/\eS zM i=some false
theorem kTQ2{i:TypeId}{U:TypeDesc}(h:(zM.und i,zM.agg i,zM.sz i,zM.zero i,eS zM i)=(some U,some A,some S,some Z,some false)):TQ2 i U A S Z:=by simpa only [Prod.mk.injEq]using h
abbrev TQ3(i:TypeId)(A:Bool)(S:Nat)(Z:List Value)(P:List (Nat×Nat)):Prop:=zM.agg i=some A/\zM.sz i=some S/\zM.zero i=some Z/\mY zM i=true/\eS zM i=some false/\placesOf zM i=some P
theorem kTQ3{i:TypeId}{P:List (Nat×Nat)}(h:(zM.agg i,zM.sz i,zM.zero i,mY zM i,eS zM i,placesOf zM i)=(some A,some S,some Z,true,some false,some P)):TQ3 i A S Z P:=by simpa only [Prod.mk.injEq]using h
abbrev TQ4(i:TypeId)(U:TypeDesc)(A:Bool)(S:Nat)(Z:List Value):Prop:=zM.und i=some U/\zM.agg i=some A/\zM.sz i=some S/\zM.zero i=some Z/\qW zM i=true/\mY zM i=true/\eS zM i=some false
theorem kTQ4{i:TypeId}{U:TypeDesc}(h:(zM.und i,zM.agg i,zM.sz i,zM.zero i,qW zM i,mY zM i,eS zM i)=(some U,some A,some S,some Z,true,true,some false)):TQ4 i U A S Z:=by simpa only [Prod.mk.injEq]using h
abbrev TQ5(i:TypeId)(A:Bool)(S:Nat)(Z:List Value):Prop:=zM.agg i=some A/\zM.sz i=some S/\zM.zero i=some Z/\isIface zM i=true/\eS zM i=some false
theorem kTQ5{i:TypeId}(h:(zM.agg i,zM.sz i,zM.zero i,isIface zM i,eS zM i)=(some A,some S,some Z,true,some false)):TQ5 i A S Z:=by simpa only [Prod.mk.injEq]using h
abbrev TQ6(i:TypeId)(U:TypeDesc)(A:Bool)(S:Nat)(Z:List Value):Prop:=zM.und i=some U/\zM.agg i=some A/\zM.sz i=some S/\zM.zero i=some Z/\isSl zM i=true/\eS zM i=some false
theorem kTQ6{i:TypeId}{U:TypeDesc}(h:(zM.und i,zM.agg i,zM.sz i,zM.zero i,isSl zM i,eS zM i)=(some U,some A,some S,some Z,true,some false)):TQ6 i U A S Z:=by simpa only [Prod.mk.injEq]using h
abbrev TQ7(i:TypeId)(A:Bool)(S:Nat)(Z:List Value):Prop:=zM.agg i=some A/\zM.sz i=some S/\zM.zero i=some Z/\mY zM i=true/\eS zM i=some false
theorem kTQ7{i:TypeId}(h:(zM.agg i,zM.sz i,zM.zero i,mY zM i,eS zM i)=(some A,some S,some Z,true,some false)):TQ7 i A S Z:=by simpa only [Prod.mk.injEq]using h
abbrev TR0(i:TypeId)(f o1 o2 o3:Nat):Prop:=(∀(b o:Nat) (s:Option Nat),aG zM i (.pointer (some ⟨b,o,s⟩)) 0=some (.pointer (some ⟨b,o+f,none⟩))/\aG zM i (.pointer (some ⟨b,o,s⟩)) 1=some (.pointer (some ⟨b,o+o1,none⟩))/\aG zM i (.pointer (some ⟨b,o,s⟩)) 2=some (.pointer (some ⟨b,o+o2,none⟩))/\aG zM i (.pointer (some ⟨b,o,s⟩)) 3=some (.pointer (some ⟨b,o+o3,none⟩)))/\ ∀a c d e:Value,bG zM i (.agg ⟨[a,c,d,e]⟩) 0=some a/\bG zM i (.agg ⟨[a,c,d,e]⟩) 1=some c/\bG zM i (.agg ⟨[a,c,d,e]⟩) 2=some d/\bG zM i (.agg ⟨[a,c,d,e]⟩) 3=some e
abbrev TR1(i:TypeId)(d o1:Nat):Prop:=(∀(b o:Nat) (s:Option Nat),aG zM i (.pointer (some ⟨b,o,s⟩)) 0=some (.pointer (some ⟨b,o+d,none⟩))/\aG zM i (.pointer (some ⟨b,o,s⟩)) 1=some (.pointer (some ⟨b,o+o1,none⟩)))/\ ∀a c:Value,bG zM i (.agg ⟨[a,c]⟩) 0=some a/\bG zM i (.agg ⟨[a,c]⟩) 1=some c
abbrev TR2(i:TypeId)(c:Nat):Prop:=(∀(b o:Nat) (s:Option Nat),aG zM i (.pointer (some ⟨b,o,s⟩)) 0=some (.pointer (some ⟨b,o+c,none⟩)))/\ ∀a:Value,bG zM i (.agg ⟨[a]⟩) 0=some a
abbrev TR3(i:TypeId)(k o1 o2 o3 l m n p:Nat):Prop:=(∀(b o:Nat) (s:Option Nat),aG zM i (.pointer (some ⟨b,o,s⟩)) 0=some (.pointer (some ⟨b,o+k,none⟩))/\aG zM i (.pointer (some ⟨b,o,s⟩)) 1=some (.pointer (some ⟨b,o+o1,none⟩))/\aG zM i (.pointer (some ⟨b,o,s⟩)) 2=some (.pointer (some ⟨b,o+o2,none⟩))/\aG zM i (.pointer (some ⟨b,o,s⟩)) 3=some (.pointer (some ⟨b,o+o3,none⟩))/\aG zM i (.pointer (some ⟨b,o,s⟩)) 4=some (.pointer (some ⟨b,o+l,none⟩))/\aG zM i (.pointer (some ⟨b,o,s⟩)) 5=some (.pointer (some ⟨b,o+m,none⟩))/\aG zM i (.pointer (some ⟨b,o,s⟩)) 6=some (.pointer (some ⟨b,o+n,none⟩))/\aG zM i (.pointer (some ⟨b,o,s⟩)) 7=some (.pointer (some ⟨b,o+p,none⟩)))/\ ∀a c d e f g h j:Value,bG zM i (.agg ⟨[a,c,d,e,f,g,h,j]⟩) 0=some a/\bG zM i (.agg ⟨[a,c,d,e,f,g,h,j]⟩) 1=some c/\bG zM i (.agg ⟨[a,c,d,e,f,g,h,j]⟩) 2=some d/\bG zM i (.agg ⟨[a,c,d,e,f,g,h,j]⟩) 3=some e/\bG zM i (.agg ⟨[a,c,d,e,f,g,h,j]⟩) 4=some f/\bG zM i (.agg ⟨[a,c,d,e,f,g,h,j]⟩) 5=some g/\bG zM i (.agg ⟨[a,c,d,e,f,g,h,j]⟩) 6=some h/\bG zM i (.agg ⟨[a,c,d,e,f,g,h,j]⟩) 7=some j
abbrev TR4(i:TypeId)(h o1 o2:Nat):Prop:=(∀(b o:Nat) (s:Option Nat),aG zM i (.pointer (some ⟨b,o,s⟩)) 0=some (.pointer (some ⟨b,o+h,none⟩))/\aG zM i (.pointer (some ⟨b,o,s⟩)) 1=some (.pointer (some ⟨b,o+o1,none⟩))/\aG zM i (.pointer (some ⟨b,o,s⟩)) 2=some (.pointer (some ⟨b,o+o2,none⟩)))/\ ∀a c d e f g:Value,bG zM i (.agg ⟨[a,c,d,e,f,g]⟩) 0=some (.agg ⟨[a,c,d,e]⟩)/\bG zM i (.agg ⟨[a,c,d,e,f,g]⟩) 1=some f/\bG zM i (.agg ⟨[a,c,d,e,f,g]⟩) 2=some g
abbrev TR5(i:TypeId)(p o1 o2 o3 q r t u v w n:Nat):Prop:=(∀(b o:Nat) (s:Option Nat),aG zM i (.pointer (some ⟨b,o,s⟩)) 0=some (.pointer (some ⟨b,o+p,none⟩))/\aG zM i (.pointer (some ⟨b,o,s⟩)) 1=some (.pointer (some ⟨b,o+o1,none⟩))/\aG zM i (.pointer (some ⟨b,o,s⟩)) 2=some (.pointer (some ⟨b,o+o2,none⟩))/\aG zM i (.pointer (some ⟨b,o,s⟩)) 3=some (.pointer (some ⟨b,o+o3,none⟩))/\aG zM i (.pointer (some ⟨b,o,s⟩)) 4=some (.pointer (some ⟨b,o+q,none⟩))/\aG zM i (.pointer (some ⟨b,o,s⟩)) 5=some (.pointer (some ⟨b,o+r,none⟩))/\aG zM i (.pointer (some ⟨b,o,s⟩)) 6=some (.pointer (some ⟨b,o+t,none⟩))/\aG zM i (.pointer (some ⟨b,o,s⟩)) 7=some (.pointer (some ⟨b,o+u,none⟩))/\aG zM i (.pointer (some ⟨b,o,s⟩)) 8=some (.pointer (some ⟨b,o+v,none⟩))/\aG zM i (.pointer (some ⟨b,o,s⟩)) 9=some (.pointer (some ⟨b,o+w,none⟩))/\aG zM i (.pointer (some ⟨b,o,s⟩)) 10=some (.pointer (some ⟨b,o+n,none⟩)))/\ ∀c d e f g h j k l m a:Value,bG zM i (.agg ⟨[c,d,e,f,g,h,j,k,l,m,a]⟩) 0=some c/\bG zM i (.agg ⟨[c,d,e,f,g,h,j,k,l,m,a]⟩) 1=some d/\bG zM i (.agg ⟨[c,d,e,f,g,h,j,k,l,m,a]⟩) 2=some e/\bG zM i (.agg ⟨[c,d,e,f,g,h,j,k,l,m,a]⟩) 3=some f/\bG zM i (.agg ⟨[c,d,e,f,g,h,j,k,l,m,a]⟩) 4=some g/\bG zM i (.agg ⟨[c,d,e,f,g,h,j,k,l,m,a]⟩) 5=some h/\bG zM i (.agg ⟨[c,d,e,f,g,h,j,k,l,m,a]⟩) 6=some j/\bG zM i (.agg ⟨[c,d,e,f,g,h,j,k,l,m,a]⟩) 7=some k/\bG zM i (.agg ⟨[c,d,e,f,g,h,j,k,l,m,a]⟩) 8=some l/\bG zM i (.agg ⟨[c,d,e,f,g,h,j,k,l,m,a]⟩) 9=some m/\bG zM i (.agg ⟨[c,d,e,f,g,h,j,k,l,m,a]⟩) 10=some a
abbrev TR6(i:TypeId)(e o1 o2:Nat):Prop:=(∀(b o:Nat) (s:Option Nat),aG zM i (.pointer (some ⟨b,o,s⟩)) 0=some (.pointer (some ⟨b,o+e,none⟩))/\aG zM i (.pointer (some ⟨b,o,s⟩)) 1=some (.pointer (some ⟨b,o+o1,none⟩))/\aG zM i (.pointer (some ⟨b,o,s⟩)) 2=some (.pointer (some ⟨b,o+o2,none⟩)))/\ ∀a c d:Value,bG zM i (.agg ⟨[a,c,d]⟩) 0=some a/\bG zM i (.agg ⟨[a,c,d]⟩) 1=some c/\bG zM i (.agg ⟨[a,c,d]⟩) 2=some d
abbrev TR7(i:TypeId)(k o1 o2 o3:Nat):Prop:=(∀(b o:Nat) (s:Option Nat),aG zM i (.pointer (some ⟨b,o,s⟩)) 0=some (.pointer (some ⟨b,o+k,none⟩))/\aG zM i (.pointer (some ⟨b,o,s⟩)) 1=some (.pointer (some ⟨b,o+o1,none⟩))/\aG zM i (.pointer (some ⟨b,o,s⟩)) 2=some (.pointer (some ⟨b,o+o2,none⟩))/\aG zM i (.pointer (some ⟨b,o,s⟩)) 3=some (.pointer (some ⟨b,o+o3,none⟩)))/\ ∀a c d e f g h j:Value,bG zM i (.agg ⟨[a,c,d,e,f,g,h,j]⟩) 0=some (.agg ⟨[a,c]⟩)/\bG zM i (.agg ⟨[a,c,d,e,f,g,h,j]⟩) 1=some d/\bG zM i (.agg ⟨[a,c,d,e,f,g,h,j]⟩) 2=some e/\bG zM i (.agg ⟨[a,c,d,e,f,g,h,j]⟩) 3=some (.agg ⟨[f,g,h,j]⟩)
abbrev TR8(i:TypeId)(n o1 o2 o3 p:Nat):Prop:=(∀(b o:Nat) (s:Option Nat),aG zM i (.pointer (some ⟨b,o,s⟩)) 0=some (.pointer (some ⟨b,o+n,none⟩))/\aG zM i (.pointer (some ⟨b,o,s⟩)) 1=some (.pointer (some ⟨b,o+o1,none⟩))/\aG zM i (.pointer (some ⟨b,o,s⟩)) 2=some (.pointer (some ⟨b,o+o2,none⟩))/\aG zM i (.pointer (some ⟨b,o,s⟩)) 3=some (.pointer (some ⟨b,o+o3,none⟩))/\aG zM i (.pointer (some ⟨b,o,s⟩)) 4=some (.pointer (some ⟨b,o+p,none⟩)))/\ ∀c d e f g h j k l m a:Value,bG zM i (.agg ⟨[c,d,e,f,g,h,j,k,l,m,a]⟩) 0=some c/\bG zM i (.agg ⟨[c,d,e,f,g,h,j,k,l,m,a]⟩) 1=some (.agg ⟨[d,e,f,g]⟩)/\bG zM i (.agg ⟨[c,d,e,f,g,h,j,k,l,m,a]⟩) 2=some (.agg ⟨[h,j]⟩)/\bG zM i (.agg ⟨[c,d,e,f,g,h,j,k,l,m,a]⟩) 3=some (.agg ⟨[k,l,m]⟩)/\bG zM i (.agg ⟨[c,d,e,f,g,h,j,k,l,m,a]⟩) 4=some a
abbrev TR9(i:TypeId)(e o1:Nat):Prop:=(∀(b o:Nat) (s:Option Nat),aG zM i (.pointer (some ⟨b,o,s⟩)) 0=some (.pointer (some ⟨b,o+e,none⟩))/\aG zM i (.pointer (some ⟨b,o,s⟩)) 1=some (.pointer (some ⟨b,o+o1,none⟩)))/\ ∀a c d:Value,bG zM i (.agg ⟨[a,c,d]⟩) 0=some (.agg ⟨[a,c]⟩)/\bG zM i (.agg ⟨[a,c,d]⟩) 1=some d
abbrev TR10(i:TypeId)(h o1 o2 o3 j k:Nat):Prop:=(∀(b o:Nat) (s:Option Nat),aG zM i (.pointer (some ⟨b,o,s⟩)) 0=some (.pointer (some ⟨b,o+h,none⟩))/\aG zM i (.pointer (some ⟨b,o,s⟩)) 1=some (.pointer (some ⟨b,o+o1,none⟩))/\aG zM i (.pointer (some ⟨b,o,s⟩)) 2=some (.pointer (some ⟨b,o+o2,none⟩))/\aG zM i (.pointer (some ⟨b,o,s⟩)) 3=some (.pointer (some ⟨b,o+o3,none⟩))/\aG zM i (.pointer (some ⟨b,o,s⟩)) 4=some (.pointer (some ⟨b,o+j,none⟩))/\aG zM i (.pointer (some ⟨b,o,s⟩)) 5=some (.pointer (some ⟨b,o+k,none⟩)))/\ ∀a c d e f g:Value,bG zM i (.agg ⟨[a,c,d,e,f,g]⟩) 0=some a/\bG zM i (.agg ⟨[a,c,d,e,f,g]⟩) 1=some c/\bG zM i (.agg ⟨[a,c,d,e,f,g]⟩) 2=some d/\bG zM i (.agg ⟨[a,c,d,e,f,g]⟩) 3=some e/\bG zM i (.agg ⟨[a,c,d,e,f,g]⟩) 4=some f/\bG zM i (.agg ⟨[a,c,d,e,f,g]⟩) 5=some g
abbrev TR11(i:TypeId)(g o1 o2:Nat):Prop:=(∀(b o:Nat) (s:Option Nat),aG zM i (.pointer (some ⟨b,o,s⟩)) 0=some (.pointer (some ⟨b,o+g,none⟩))/\aG zM i (.pointer (some ⟨b,o,s⟩)) 1=some (.pointer (some ⟨b,o+o1,none⟩))/\aG zM i (.pointer (some ⟨b,o,s⟩)) 2=some (.pointer (some ⟨b,o+o2,none⟩)))/\ ∀a c d e f:Value,bG zM i (.agg ⟨[a,c,d,e,f]⟩) 0=some a/\bG zM i (.agg ⟨[a,c,d,e,f]⟩) 1=some (.agg ⟨[c,d,e]⟩)/\bG zM i (.agg ⟨[a,c,d,e,f]⟩) 2=some f
theorem t1:TQ0 1 false 1 [.nilFunc]:=kTQ0 (by kernel_rfl)
theorem t2:TQ1 2 (.int .i64) false 1 [.int .i64 0]:=kTQ1 (by kernel_rfl)
theorem e2E:fV zM 2 8 1 [.int .i64 0]:=⟨⟨_,rfl,by kernel_rfl,by kernel_rfl⟩,t2.2.2.2.1,rfl⟩
theorem t3:TQ1 3 (.int .i64) false 1 [.int .i64 0]:=kTQ1 (by kernel_rfl)
theorem e3E:fV zM 3 8 1 [.int .i64 0]:=⟨⟨_,rfl,by kernel_rfl,by kernel_rfl⟩,t3.2.2.2.1,rfl⟩
theorem t4:TQ2 4 .bool false 1 [.bool false]:=kTQ2 (by kernel_rfl)
theorem e4E:fV zM 4 1 1 [.bool false]:=⟨⟨_,rfl,by kernel_rfl,by kernel_rfl⟩,t4.2.2.2.1,rfl⟩
theorem t5:TQ1 5 (.int .u8) false 1 [.int .u8 0]:=kTQ1 (by kernel_rfl)
theorem e5E:fV zM 5 1 1 [.int .u8 0]:=⟨⟨_,rfl,by kernel_rfl,by kernel_rfl⟩,t5.2.2.2.1,rfl⟩
theorem t6:TQ1 6 (.int .u8) false 1 [.int .u8 0]:=kTQ1 (by kernel_rfl)
theorem t7:TQ3 7 true 4 [.int .i64 0,.int .i64 0,.bool false,.int .u8 0] [(0,1),(1,1),(2,1),(3,1)]:=kTQ3 (by kernel_rfl)
theorem r7:TR0 7 0 1 2 3:=⟨fun _ _ _=>⟨rfl,rfl,rfl,rfl⟩,fun _ _ _ _=>⟨rfl,rfl,rfl,rfl⟩⟩
theorem t8:TQ3 8 true 4 [.int .i64 0,.int .i64 0,.bool false,.int .u8 0] [(0,1),(1,1),(2,1),(3,1)]:=kTQ3 (by kernel_rfl)
theorem r8:TR0 8 0 1 2 3:=⟨fun _ _ _=>⟨rfl,rfl,rfl,rfl⟩,fun _ _ _ _=>⟨rfl,rfl,rfl,rfl⟩⟩
theorem t9:TQ2 9 .string false 1 [.string ⟨#[]⟩]:=kTQ2 (by kernel_rfl)
theorem t10:TQ2 10 .string false 1 [.string ⟨#[]⟩]:=kTQ2 (by kernel_rfl)
theorem t11:TQ2 11 .string false 1 [.string ⟨#[]⟩]:=kTQ2 (by kernel_rfl)
theorem t12:TQ1 12 (.int .u64) false 1 [.int .u64 0]:=kTQ1 (by kernel_rfl)
theorem t13:TQ3 13 true 2 [.string ⟨#[]⟩,.int .u64 0] [(0,1),(1,1)]:=kTQ3 (by kernel_rfl)
theorem r13:TR1 13 0 1:=⟨fun _ _ _=>⟨rfl,rfl⟩,fun _ _=>⟨rfl,rfl⟩⟩
theorem t14:TQ3 14 true 2 [.string ⟨#[]⟩,.int .u64 0] [(0,1),(1,1)]:=kTQ3 (by kernel_rfl)
theorem r14:TR1 14 0 1:=⟨fun _ _ _=>⟨rfl,rfl⟩,fun _ _=>⟨rfl,rfl⟩⟩
theorem t15:TQ4 15 (.pointer 367) false 1 [.pointer none]:=kTQ4 (by kernel_rfl)
theorem t16:TQ4 16 (.pointer 370) false 1 [.pointer none]:=kTQ4 (by kernel_rfl)
theorem t17:TQ4 17 (.pointer 377) false 1 [.pointer none]:=kTQ4 (by kernel_rfl)
theorem t18:TQ3 18 true 1 [.pointer none] [(0,1)]:=kTQ3 (by kernel_rfl)
theorem r18:TR2 18 0:=⟨fun _ _ _=>rfl,fun _=>rfl⟩
theorem t19:TQ3 19 true 1 [.pointer none] [(0,1)]:=kTQ3 (by kernel_rfl)
theorem r19:TR2 19 0:=⟨fun _ _ _=>rfl,fun _=>rfl⟩
theorem t20:TQ5 20 false 1 [.nilIface]:=kTQ5 (by kernel_rfl)
theorem t21:TQ1 21 (.int .i32) false 1 [.int .i32 0]:=kTQ1 (by kernel_rfl)
theorem t22:TQ6 22 (.slice 5) false 1 [.slice none 0 0]:=kTQ6 (by kernel_rfl)
theorem t23:TQ6 23 (.slice 2) false 1 [.slice none 0 0]:=kTQ6 (by kernel_rfl)
theorem e23E:fV zM 23 24 1 [.slice none 0 0]:=⟨⟨_,rfl,by kernel_rfl,by kernel_rfl⟩,t23.2.2.2.1,rfl⟩
theorem t24:TQ1 24 (.int .i8) false 1 [.int .i8 0]:=kTQ1 (by kernel_rfl)
theorem t25:TQ3 25 true 8 [.slice none 0 0,.slice none 0 0,.slice none 0 0,.int .u8 0,.slice none 0 0,.int .u8 0,.int .u8 0,.int .i8 0] [(0,1),(1,1),(2,1),(3,1),(4,1),(5,1),(6,1),(7,1)]:=kTQ3 (by kernel_rfl)
theorem r25:TR3 25 0 1 2 3 4 5 6 7:=⟨fun _ _ _=>⟨rfl,rfl,rfl,rfl,rfl,rfl,rfl,rfl⟩,fun _ _ _ _ _ _ _ _=>⟨rfl,rfl,rfl,rfl,rfl,rfl,rfl,rfl⟩⟩
theorem t26:TQ3 26 true 8 [.slice none 0 0,.slice none 0 0,.slice none 0 0,.int .u8 0,.slice none 0 0,.int .u8 0,.int .u8 0,.int .i8 0] [(0,1),(1,1),(2,1),(3,1),(4,1),(5,1),(6,1),(7,1)]:=kTQ3 (by kernel_rfl)
theorem r26:TR3 26 0 1 2 3 4 5 6 7:=⟨fun _ _ _=>⟨rfl,rfl,rfl,rfl,rfl,rfl,rfl,rfl⟩,fun _ _ _ _ _ _ _ _=>⟨rfl,rfl,rfl,rfl,rfl,rfl,rfl,rfl⟩⟩
theorem t27:TQ0 27 false 1 [.nilFunc]:=kTQ0 (by kernel_rfl)
theorem t28:TQ4 28 (.pointer 36) false 1 [.pointer none]:=kTQ4 (by kernel_rfl)
theorem t31:TQ4 31 (.pointer 92) false 1 [.pointer none]:=kTQ4 (by kernel_rfl)
theorem t32:TQ4 32 (.pointer 168) false 1 [.pointer none]:=kTQ4 (by kernel_rfl)
theorem t33:TQ4 33 (.pointer 177) false 1 [.pointer none]:=kTQ4 (by kernel_rfl)
theorem t34:TQ4 34 (.pointer 252) false 1 [.pointer none]:=kTQ4 (by kernel_rfl)
theorem t36:TQ3 36 true 4 [.pointer none,.pointer none,.pointer none,.pointer none] [(0,1),(1,1),(2,1),(3,1)]:=kTQ3 (by kernel_rfl)
theorem r36:TR0 36 0 1 2 3:=⟨fun _ _ _=>⟨rfl,rfl,rfl,rfl⟩,fun _ _ _ _=>⟨rfl,rfl,rfl,rfl⟩⟩
theorem t39:TQ3 39 true 2 [.pointer none,.pointer none] [(0,1),(1,1)]:=kTQ3 (by kernel_rfl)
theorem r39:TR1 39 0 1:=⟨fun _ _ _=>⟨rfl,rfl⟩,fun _ _=>⟨rfl,rfl⟩⟩
theorem t40:TQ1 40 (.int .i64) false 1 [.int .i64 0]:=kTQ1 (by kernel_rfl)
theorem t41:TQ6 41 (.slice 3) false 1 [.slice none 0 0]:=kTQ6 (by kernel_rfl)
theorem e41E:fV zM 41 24 1 [.slice none 0 0]:=⟨⟨_,rfl,by kernel_rfl,by kernel_rfl⟩,t41.2.2.2.1,rfl⟩
theorem t43:TQ3 43 true 4 [.int .i64 0,.int .i64 0,.slice none 0 0,.slice none 0 0] [(0,1),(1,1),(2,1),(3,1)]:=kTQ3 (by kernel_rfl)
theorem r43:TR0 43 0 1 2 3:=⟨fun _ _ _=>⟨rfl,rfl,rfl,rfl⟩,fun _ _ _ _=>⟨rfl,rfl,rfl,rfl⟩⟩
theorem t44:TQ6 44 (.slice 143) false 1 [.slice none 0 0]:=kTQ6 (by kernel_rfl)
theorem t48:TQ3 48 true 4 [.int .i64 0,.int .i64 0,.int .i64 0,.int .i64 0] [(0,1),(1,1),(2,1),(3,1)]:=kTQ3 (by kernel_rfl)
theorem r48:TR0 48 0 1 2 3:=⟨fun _ _ _=>⟨rfl,rfl,rfl,rfl⟩,fun _ _ _ _=>⟨rfl,rfl,rfl,rfl⟩⟩
theorem t57:TQ3 57 true 4 [.int .i64 0,.slice none 0 0,.slice none 0 0,.slice none 0 0] [(0,1),(1,1),(2,1),(3,1)]:=kTQ3 (by kernel_rfl)
theorem r57:TR0 57 0 1 2 3:=⟨fun _ _ _=>⟨rfl,rfl,rfl,rfl⟩,fun _ _ _ _=>⟨rfl,rfl,rfl,rfl⟩⟩
theorem t79:TQ6 79 (.slice 23) false 1 [.slice none 0 0]:=kTQ6 (by kernel_rfl)
theorem t90:TQ6 90 (.slice 41) false 1 [.slice none 0 0]:=kTQ6 (by kernel_rfl)
theorem t92:TQ3 92 true 6 [.int .i64 0,.slice none 0 0,.slice none 0 0,.slice none 0 0,.slice none 0 0,.slice none 0 0] [(0,4),(4,1),(5,1)]:=kTQ3 (by kernel_rfl)
theorem r92:TR4 92 0 4 5:=⟨fun _ _ _=>⟨rfl,rfl,rfl⟩,fun _ _ _ _ _ _=>⟨rfl,rfl,rfl⟩⟩
theorem t143:TQ3 143 true 4 [.int .i64 0,.int .i64 0,.int .i64 0,.int .i64 0] [(0,1),(1,1),(2,1),(3,1)]:=kTQ3 (by kernel_rfl)
theorem r143:TR0 143 0 1 2 3:=⟨fun _ _ _=>⟨rfl,rfl,rfl,rfl⟩,fun _ _ _ _=>⟨rfl,rfl,rfl,rfl⟩⟩
theorem e143E:fV zM 143 32 4 [.int .i64 0,.int .i64 0,.int .i64 0,.int .i64 0]:=⟨⟨_,rfl,by kernel_rfl,by kernel_rfl⟩,t143.2.2.1,rfl⟩
theorem t168:TQ3 168 true 4 [.int .i64 0,.slice none 0 0,.slice none 0 0,.slice none 0 0] [(0,1),(1,1),(2,1),(3,1)]:=kTQ3 (by kernel_rfl)
theorem r168:TR0 168 0 1 2 3:=⟨fun _ _ _=>⟨rfl,rfl,rfl,rfl⟩,fun _ _ _ _=>⟨rfl,rfl,rfl,rfl⟩⟩
theorem t177:TQ3 177 true 2 [.slice none 0 0,.int .i64 0] [(0,1),(1,1)]:=kTQ3 (by kernel_rfl)
theorem r177:TR1 177 0 1:=⟨fun _ _ _=>⟨rfl,rfl⟩,fun _ _=>⟨rfl,rfl⟩⟩
theorem t182:TQ4 182 (.pointer 5) false 1 [.pointer none]:=kTQ4 (by kernel_rfl)
theorem t252:TQ3 252 true 4 [.int .i64 0,.int .i64 0,.int .i64 0,.slice none 0 0] [(0,1),(1,1),(2,1),(3,1)]:=kTQ3 (by kernel_rfl)
theorem r252:TR0 252 0 1 2 3:=⟨fun _ _ _=>⟨rfl,rfl,rfl,rfl⟩,fun _ _ _ _=>⟨rfl,rfl,rfl,rfl⟩⟩
theorem t302:TQ1 302 (.int .u8) false 1 [.int .u8 0]:=kTQ1 (by kernel_rfl)
theorem t357:TQ1 357 (.int .u32) false 1 [.int .u32 0]:=kTQ1 (by kernel_rfl)
theorem t367:TQ3 367 true 4 [.pointer none,.pointer none,.pointer none,.string ⟨#[]⟩] [(0,1),(1,1),(2,1),(3,1)]:=kTQ3 (by kernel_rfl)
theorem r367:TR0 367 0 1 2 3:=⟨fun _ _ _=>⟨rfl,rfl,rfl,rfl⟩,fun _ _ _ _=>⟨rfl,rfl,rfl,rfl⟩⟩
theorem t368:TQ2 368 (.array 0 16) true 0 []:=kTQ2 (by kernel_rfl)
theorem t370:TQ7 370 true 0 []:=kTQ7 (by kernel_rfl)
theorem t372:TQ1 372 (.int .u8) false 1 [.int .u8 0]:=kTQ1 (by kernel_rfl)
theorem t373:TQ0 373 false 1 [.nilFunc]:=kTQ0 (by kernel_rfl)
theorem t374:TQ1 374 (.int .i32) false 1 [.int .i32 0]:=kTQ1 (by kernel_rfl)
theorem t375:TQ1 375 (.int .i32) false 1 [.int .i32 0]:=kTQ1 (by kernel_rfl)
theorem t377:TQ3 377 true 11 [.int .u64 0,.int .u64 0,.int .u32 0,.int .u8 0,.int .u8 0,.int .u8 0,.int .u8 0,.nilFunc,.pointer none,.int .i32 0,.int .i32 0] [(0,1),(1,1),(2,1),(3,1),(4,1),(5,1),(6,1),(7,1),(8,1),(9,1),(10,1)]:=kTQ3 (by kernel_rfl)
theorem r377:TR5 377 0 1 2 3 4 5 6 7 8 9 10:=⟨fun _ _ _=>⟨rfl,rfl,rfl,rfl,rfl,rfl,rfl,rfl,rfl,rfl,rfl⟩,fun _ _ _ _ _ _ _ _ _ _ _=>⟨rfl,rfl,rfl,rfl,rfl,rfl,rfl,rfl,rfl,rfl,rfl⟩⟩
theorem t55:TQ6 55 (.slice 135) false 1 [.slice none 0 0]:=kTQ6 (by kernel_rfl)
theorem t135:TQ3 135 true 3 [.int .i64 0,.int .i64 0,.int .i64 0] [(0,1),(1,1),(2,1)]:=kTQ3 (by kernel_rfl)
theorem r135:TR6 135 0 1 2:=⟨fun _ _ _=>⟨rfl,rfl,rfl⟩,fun _ _ _=>⟨rfl,rfl,rfl⟩⟩
theorem e135E:fV zM 135 24 3 [.int .i64 0,.int .i64 0,.int .i64 0]:=⟨⟨_,rfl,by kernel_rfl,by kernel_rfl⟩,t135.2.2.1,rfl⟩
theorem e4:zM.fn 4=some Tryz.f4:=by kernel_rfl
theorem e5:zM.fn 5=some Tryz.f5:=by kernel_rfl
theorem e6:zM.fn 6=some Tryz.f6:=by kernel_rfl
theorem t29:TQ0 29 false 1 [.nilFunc]:=kTQ0 (by kernel_rfl)
theorem t30:TQ0 30 false 1 [.nilFunc]:=kTQ0 (by kernel_rfl)
theorem t35:TQ3 35 true 4 [.pointer none,.pointer none,.pointer none,.pointer none] [(0,1),(1,1),(2,1),(3,1)]:=kTQ3 (by kernel_rfl)
theorem r35:TR0 35 0 1 2 3:=⟨fun _ _ _=>⟨rfl,rfl,rfl,rfl⟩,fun _ _ _ _=>⟨rfl,rfl,rfl,rfl⟩⟩
theorem t37:TQ0 37 false 1 [.nilFunc]:=kTQ0 (by kernel_rfl)
theorem t38:TQ3 38 true 2 [.pointer none,.pointer none] [(0,1),(1,1)]:=kTQ3 (by kernel_rfl)
theorem r38:TR1 38 0 1:=⟨fun _ _ _=>⟨rfl,rfl⟩,fun _ _=>⟨rfl,rfl⟩⟩
theorem t42:TQ3 42 true 4 [.int .i64 0,.int .i64 0,.slice none 0 0,.slice none 0 0] [(0,1),(1,1),(2,1),(3,1)]:=kTQ3 (by kernel_rfl)
theorem r42:TR0 42 0 1 2 3:=⟨fun _ _ _=>⟨rfl,rfl,rfl,rfl⟩,fun _ _ _ _=>⟨rfl,rfl,rfl,rfl⟩⟩
theorem t46:TQ0 46 false 1 [.nilFunc]:=kTQ0 (by kernel_rfl)
theorem t47:TQ3 47 true 4 [.int .i64 0,.int .i64 0,.int .i64 0,.int .i64 0] [(0,1),(1,1),(2,1),(3,1)]:=kTQ3 (by kernel_rfl)
theorem r47:TR0 47 0 1 2 3:=⟨fun _ _ _=>⟨rfl,rfl,rfl,rfl⟩,fun _ _ _ _=>⟨rfl,rfl,rfl,rfl⟩⟩
theorem t71:TQ4 71 (.pointer 73) false 1 [.pointer none]:=kTQ4 (by kernel_rfl)
theorem t73:TQ3 73 true 2 [.slice none 0 0,.int .i64 0] [(0,1),(1,1)]:=kTQ3 (by kernel_rfl)
theorem r73:TR1 73 0 1:=⟨fun _ _ _=>⟨rfl,rfl⟩,fun _ _=>⟨rfl,rfl⟩⟩
theorem t75:TQ5 75 false 1 [.nilIface]:=kTQ5 (by kernel_rfl)
theorem t87:TQ1 87 (.int .u64) false 1 [.int .u64 0]:=kTQ1 (by kernel_rfl)
theorem e8:zM.fn 8=some Tryz.f8:=by kernel_rfl
theorem e9:zM.fn 9=some Tryz.f9:=by kernel_rfl
theorem e10:zM.fn 10=some Tryz.f10:=by kernel_rfl
theorem t96:TQ3 96 true 3 [.int .i64 0,.slice none 0 0,.slice none 0 0] [(0,1),(1,1),(2,1)]:=kTQ3 (by kernel_rfl)
theorem r96:TR6 96 0 1 2:=⟨fun _ _ _=>⟨rfl,rfl,rfl⟩,fun _ _ _=>⟨rfl,rfl,rfl⟩⟩
theorem t100:TQ6 100 (.slice 4) false 1 [.slice none 0 0]:=kTQ6 (by kernel_rfl)
theorem t102:TQ3 102 true 4 [.int .i64 0,.int .i64 0,.slice none 0 0,.slice none 0 0] [(0,1),(1,1),(2,1),(3,1)]:=kTQ3 (by kernel_rfl)
theorem r102:TR0 102 0 1 2 3:=⟨fun _ _ _=>⟨rfl,rfl,rfl,rfl⟩,fun _ _ _ _=>⟨rfl,rfl,rfl,rfl⟩⟩
theorem e11:zM.fn 11=some Tryz.f11:=by kernel_rfl
theorem e12:zM.fn 12=some Tryz.f12:=by kernel_rfl
theorem e13:zM.fn 13=some Tryz.f13:=by kernel_rfl
theorem t110:TQ4 110 (.pointer 112) false 1 [.pointer none]:=kTQ4 (by kernel_rfl)
theorem t112:TQ3 112 true 8 [.pointer none,.pointer none,.pointer none,.pointer none,.int .i64 0,.int .i64 0,.int .i64 0,.int .i64 0] [(0,2),(2,1),(3,1),(4,4)]:=kTQ3 (by kernel_rfl)
theorem r112:TR7 112 0 2 3 4:=⟨fun _ _ _=>⟨rfl,rfl,rfl,rfl⟩,fun _ _ _ _ _ _ _ _=>⟨rfl,rfl,rfl,rfl⟩⟩
theorem t114:TQ0 114 false 1 [.nilFunc]:=kTQ0 (by kernel_rfl)
theorem t117:TQ0 117 false 1 [.nilFunc]:=kTQ0 (by kernel_rfl)
theorem t118:TQ2 118 (.map 3 117) false 1 [.map none]:=kTQ2 (by kernel_rfl)
theorem e14:zM.fn 14=some Tryz.f14:=by kernel_rfl
theorem t52:TQ0 52 false 1 [.nilFunc]:=kTQ0 (by kernel_rfl)
theorem t124:TQ0 124 false 1 [.nilFunc]:=kTQ0 (by kernel_rfl)
theorem t126:TQ3 126 true 3 [.bool false,.bool false,.nilFunc] [(0,1),(1,1),(2,1)]:=kTQ3 (by kernel_rfl)
theorem r126:TR6 126 0 1 2:=⟨fun _ _ _=>⟨rfl,rfl,rfl⟩,fun _ _ _=>⟨rfl,rfl,rfl⟩⟩
theorem t127:TQ2 127 (.array 6 126) true 18 [.bool false,.bool false,.nilFunc,.bool false,.bool false,.nilFunc,.bool false,.bool false,.nilFunc,.bool false,.bool false,.nilFunc,.bool false,.bool false,.nilFunc,.bool false,.bool false,.nilFunc]:=kTQ2 (by kernel_rfl)
theorem e15:zM.fn 15=some Tryz.f15:=by kernel_rfl
theorem t132:TQ0 132 false 1 [.nilFunc]:=kTQ0 (by kernel_rfl)
theorem e20:zM.fn 20=some Tryz.f20:=by kernel_rfl
theorem e23:zM.fn 23=some Tryz.f23:=by kernel_rfl
theorem t138:TQ0 138 false 1 [.nilFunc]:=kTQ0 (by kernel_rfl)
theorem t140:TQ2 140 (.map 144 3) false 1 [.map none]:=kTQ2 (by kernel_rfl)
theorem t144:TQ2 144 (.array 3 3) true 3 [.int .i64 0,.int .i64 0,.int .i64 0]:=kTQ2 (by kernel_rfl)
theorem e24:zM.fn 24=some Tryz.f24:=by kernel_rfl
theorem t145:TQ2 145 (.array 2 3) true 2 [.int .i64 0,.int .i64 0]:=kTQ2 (by kernel_rfl)
theorem e25:zM.fn 25=some Tryz.f25:=by kernel_rfl
theorem t149:TQ0 149 false 1 [.nilFunc]:=kTQ0 (by kernel_rfl)
theorem t151:TQ0 151 false 1 [.nilFunc]:=kTQ0 (by kernel_rfl)
theorem e26:zM.fn 26=some Tryz.f26:=by kernel_rfl
theorem e27:zM.fn 27=some Tryz.f27:=by kernel_rfl
theorem e28:zM.fn 28=some Tryz.f28:=by kernel_rfl
theorem e31:zM.fn 31=some Tryz.f31:=by kernel_rfl
theorem t155:TQ3 155 true 4 [.int .i64 0,.int .i64 0,.int .i64 0,.int .i64 0] [(0,1),(1,1),(2,1),(3,1)]:=kTQ3 (by kernel_rfl)
theorem r155:TR0 155 0 1 2 3:=⟨fun _ _ _=>⟨rfl,rfl,rfl,rfl⟩,fun _ _ _ _=>⟨rfl,rfl,rfl,rfl⟩⟩
theorem t157:TQ4 157 (.pointer 155) false 1 [.pointer none]:=kTQ4 (by kernel_rfl)
theorem t159:TQ3 159 true 1 [.pointer none] [(0,1)]:=kTQ3 (by kernel_rfl)
theorem r159:TR2 159 0:=⟨fun _ _ _=>rfl,fun _=>rfl⟩
theorem e32:zM.fn 32=some Tryz.f32:=by kernel_rfl
theorem t164:TQ0 164 false 1 [.nilFunc]:=kTQ0 (by kernel_rfl)
theorem t166:TQ0 166 false 1 [.nilFunc]:=kTQ0 (by kernel_rfl)
theorem e33:zM.fn 33=some Tryz.f33:=by kernel_rfl
theorem e34:zM.fn 34=some Tryz.f34:=by kernel_rfl
theorem t172:TQ0 172 false 1 [.nilFunc]:=kTQ0 (by kernel_rfl)
theorem t174:TQ0 174 false 1 [.nilFunc]:=kTQ0 (by kernel_rfl)
theorem e35:zM.fn 35=some Tryz.f35:=by kernel_rfl
theorem e36:zM.fn 36=some Tryz.f36:=by kernel_rfl
theorem e37:zM.fn 37=some Tryz.f37:=by kernel_rfl
theorem e38:zM.fn 38=some Tryz.f38:=by kernel_rfl
theorem t183:TQ0 183 false 1 [.nilFunc]:=kTQ0 (by kernel_rfl)
theorem e39:zM.fn 39=some Tryz.f39:=by kernel_rfl
theorem e40:zM.fn 40=some Tryz.f40:=by kernel_rfl
theorem e41:zM.fn 41=some Tryz.f41:=by kernel_rfl
theorem e42:zM.fn 42=some Tryz.f42:=by kernel_rfl
theorem t185:TQ0 185 false 1 [.nilFunc]:=kTQ0 (by kernel_rfl)
theorem t188:TQ3 188 true 2 [.nilFunc,.int .i64 0] [(0,1),(1,1)]:=kTQ3 (by kernel_rfl)
theorem r188:TR1 188 0 1:=⟨fun _ _ _=>⟨rfl,rfl⟩,fun _ _=>⟨rfl,rfl⟩⟩
theorem e188E:fV zM 188 16 2 [.nilFunc,.int .i64 0]:=⟨⟨_,rfl,by kernel_rfl,by kernel_rfl⟩,t188.2.2.1,rfl⟩
theorem t257:TQ6 257 (.slice 188) false 1 [.slice none 0 0]:=kTQ6 (by kernel_rfl)
theorem e43:zM.fn 43=some Tryz.f43:=by kernel_rfl
theorem t192:TQ0 192 false 1 [.nilFunc]:=kTQ0 (by kernel_rfl)
theorem e44:zM.fn 44=some Tryz.f44:=by kernel_rfl
theorem t195:TQ4 195 (.pointer 264) false 1 [.pointer none]:=kTQ4 (by kernel_rfl)
theorem t203:TQ0 203 false 1 [.nilFunc]:=kTQ0 (by kernel_rfl)
theorem t261:TQ4 261 (.pointer 325) false 1 [.pointer none]:=kTQ4 (by kernel_rfl)
theorem t264:TQ3 264 true 8 [.pointer none,.pointer none,.slice none 0 0,.slice none 0 0,.slice none 0 0,.nilFunc,.nilFunc,.slice none 0 0] [(0,1),(1,1),(2,1),(3,1),(4,1),(5,1),(6,1),(7,1)]:=kTQ3 (by kernel_rfl)
theorem r264:TR3 264 0 1 2 3 4 5 6 7:=⟨fun _ _ _=>⟨rfl,rfl,rfl,rfl,rfl,rfl,rfl,rfl⟩,fun _ _ _ _ _ _ _ _=>⟨rfl,rfl,rfl,rfl,rfl,rfl,rfl,rfl⟩⟩
theorem e45:zM.fn 45=some Tryz.f45:=by kernel_rfl
theorem t200:TQ0 200 false 1 [.nilFunc]:=kTQ0 (by kernel_rfl)
theorem e46:zM.fn 46=some Tryz.f46:=by kernel_rfl
theorem t104:TQ3 104 true 1 [.int .i64 0] [(0,1)]:=kTQ3 (by kernel_rfl)
theorem r104:TR2 104 0:=⟨fun _ _ _=>rfl,fun _=>rfl⟩
theorem e47:zM.fn 47=some Tryz.f47:=by kernel_rfl
theorem t204:TQ2 204 (.array 4 1) true 4 [.nilFunc,.nilFunc,.nilFunc,.nilFunc]:=kTQ2 (by kernel_rfl)
theorem e48:zM.fn 48=some Tryz.f48:=by kernel_rfl
theorem e49:zM.fn 49=some Tryz.f49:=by kernel_rfl
theorem t206:TQ4 206 (.pointer 210) false 1 [.pointer none]:=kTQ4 (by kernel_rfl)
theorem t207:TQ4 207 (.pointer 274) false 1 [.pointer none]:=kTQ4 (by kernel_rfl)
theorem t208:TQ2 208 (.array 2 207) true 2 [.pointer none,.pointer none]:=kTQ2 (by kernel_rfl)
theorem t210:TQ3 210 true 11 [.pointer none,.int .i64 0,.int .i64 0,.slice none 0 0,.slice none 0 0,.pointer none,.pointer none,.int .i64 0,.slice none 0 0,.slice none 0 0,.int .i64 0] [(0,1),(1,4),(5,2),(7,3),(10,1)]:=kTQ3 (by kernel_rfl)
theorem r210:TR8 210 0 1 5 7 10:=⟨fun _ _ _=>⟨rfl,rfl,rfl,rfl,rfl⟩,fun _ _ _ _ _ _ _ _ _ _ _=>⟨rfl,rfl,rfl,rfl,rfl⟩⟩
theorem t212:TQ0 212 false 1 [.nilFunc]:=kTQ0 (by kernel_rfl)
theorem t213:TQ0 213 false 1 [.nilFunc]:=kTQ0 (by kernel_rfl)
theorem t230:TQ2 230 (.map 3 3) false 1 [.map none]:=kTQ2 (by kernel_rfl)
theorem t272:TQ2 272 (.map 3 2) false 1 [.map none]:=kTQ2 (by kernel_rfl)
theorem t274:TQ3 274 true 8 [.pointer none,.int .i64 0,.int .i64 0,.nilFunc,.nilFunc,.map none,.map none,.map none] [(0,1),(1,1),(2,1),(3,1),(4,1),(5,1),(6,1),(7,1)]:=kTQ3 (by kernel_rfl)
theorem r274:TR3 274 0 1 2 3 4 5 6 7:=⟨fun _ _ _=>⟨rfl,rfl,rfl,rfl,rfl,rfl,rfl,rfl⟩,fun _ _ _ _ _ _ _ _=>⟨rfl,rfl,rfl,rfl,rfl,rfl,rfl,rfl⟩⟩
theorem e50:zM.fn 50=some Tryz.f50:=by kernel_rfl
theorem e51:zM.fn 51=some Tryz.f51:=by kernel_rfl
theorem e52:zM.fn 52=some Tryz.f52:=by kernel_rfl
theorem t113:TQ0 113 false 1 [.nilFunc]:=kTQ0 (by kernel_rfl)
theorem e53:zM.fn 53=some Tryz.f53:=by kernel_rfl
theorem e54:zM.fn 54=some Tryz.f54:=by kernel_rfl
theorem e55:zM.fn 55=some Tryz.f55:=by kernel_rfl
theorem e56:zM.fn 56=some Tryz.f56:=by kernel_rfl
theorem e57:zM.fn 57=some Tryz.f57:=by kernel_rfl
theorem t122:TQ3 122 true 1 [.int .i64 0] [(0,1)]:=kTQ3 (by kernel_rfl)
theorem r122:TR2 122 0:=⟨fun _ _ _=>rfl,fun _=>rfl⟩
theorem e58:zM.fn 58=some Tryz.f58:=by kernel_rfl
theorem e59:zM.fn 59=some Tryz.f59:=by kernel_rfl
theorem e60:zM.fn 60=some Tryz.f60:=by kernel_rfl
theorem t98:TQ0 98 false 1 [.nilFunc]:=kTQ0 (by kernel_rfl)
theorem e61:zM.fn 61=some Tryz.f61:=by kernel_rfl
theorem e62:zM.fn 62=some Tryz.f62:=by kernel_rfl
theorem e63:zM.fn 63=some Tryz.f63:=by kernel_rfl
theorem e64:zM.fn 64=some Tryz.f64:=by kernel_rfl
theorem t131:TQ0 131 false 1 [.nilFunc]:=kTQ0 (by kernel_rfl)
theorem e65:zM.fn 65=some Tryz.f65:=by kernel_rfl
theorem t228:TQ0 228 false 1 [.nilFunc]:=kTQ0 (by kernel_rfl)
theorem e66:zM.fn 66=some Tryz.f66:=by kernel_rfl
theorem e67:zM.fn 67=some Tryz.f67:=by kernel_rfl
theorem e68:zM.fn 68=some Tryz.f68:=by kernel_rfl
theorem e69:zM.fn 69=some Tryz.f69:=by kernel_rfl
theorem e70:zM.fn 70=some Tryz.f70:=by kernel_rfl
theorem e71:zM.fn 71=some Tryz.f71:=by kernel_rfl
theorem e72:zM.fn 72=some Tryz.f72:=by kernel_rfl
theorem t148:TQ0 148 false 1 [.nilFunc]:=kTQ0 (by kernel_rfl)
theorem e73:zM.fn 73=some Tryz.f73:=by kernel_rfl
theorem e74:zM.fn 74=some Tryz.f74:=by kernel_rfl
theorem e75:zM.fn 75=some Tryz.f75:=by kernel_rfl
theorem e76:zM.fn 76=some Tryz.f76:=by kernel_rfl
theorem e77:zM.fn 77=some Tryz.f77:=by kernel_rfl
theorem t241:TQ0 241 false 1 [.nilFunc]:=kTQ0 (by kernel_rfl)
theorem e79:zM.fn 79=some Tryz.f79:=by kernel_rfl
theorem e80:zM.fn 80=some Tryz.f80:=by kernel_rfl
theorem e81:zM.fn 81=some Tryz.f81:=by kernel_rfl
theorem e82:zM.fn 82=some Tryz.f82:=by kernel_rfl
theorem t163:TQ0 163 false 1 [.nilFunc]:=kTQ0 (by kernel_rfl)
theorem e83:zM.fn 83=some Tryz.f83:=by kernel_rfl
theorem t245:TQ3 245 true 3 [.slice none 0 0,.slice none 0 0,.slice none 0 0] [(0,1),(1,1),(2,1)]:=kTQ3 (by kernel_rfl)
theorem r245:TR6 245 0 1 2:=⟨fun _ _ _=>⟨rfl,rfl,rfl⟩,fun _ _ _=>⟨rfl,rfl,rfl⟩⟩
theorem e84:zM.fn 84=some Tryz.f84:=by kernel_rfl
theorem e85:zM.fn 85=some Tryz.f85:=by kernel_rfl
theorem e86:zM.fn 86=some Tryz.f86:=by kernel_rfl
theorem t171:TQ0 171 false 1 [.nilFunc]:=kTQ0 (by kernel_rfl)
theorem e87:zM.fn 87=some Tryz.f87:=by kernel_rfl
theorem e88:zM.fn 88=some Tryz.f88:=by kernel_rfl
theorem e89:zM.fn 89=some Tryz.f89:=by kernel_rfl
theorem e90:zM.fn 90=some Tryz.f90:=by kernel_rfl
theorem e91:zM.fn 91=some Tryz.f91:=by kernel_rfl
theorem e92:zM.fn 92=some Tryz.f92:=by kernel_rfl
theorem t120:TQ0 120 false 1 [.nilFunc]:=kTQ0 (by kernel_rfl)
theorem e93:zM.fn 93=some Tryz.f93:=by kernel_rfl
theorem e94:zM.fn 94=some Tryz.f94:=by kernel_rfl
theorem e95:zM.fn 95=some Tryz.f95:=by kernel_rfl
theorem e96:zM.fn 96=some Tryz.f96:=by kernel_rfl
theorem e97:zM.fn 97=some Tryz.f97:=by kernel_rfl
theorem e98:zM.fn 98=some Tryz.f98:=by kernel_rfl
theorem e99:zM.fn 99=some Tryz.f99:=by kernel_rfl
theorem e100:zM.fn 100=some Tryz.f100:=by kernel_rfl
theorem e101:zM.fn 101=some Tryz.f101:=by kernel_rfl
theorem e102:zM.fn 102=some Tryz.f102:=by kernel_rfl
theorem e103:zM.fn 103=some Tryz.f103:=by kernel_rfl
theorem e104:zM.fn 104=some Tryz.f104:=by kernel_rfl
theorem e105:zM.fn 105=some Tryz.f105:=by kernel_rfl
theorem e106:zM.fn 106=some Tryz.f106:=by kernel_rfl
theorem e107:zM.fn 107=some Tryz.f107:=by kernel_rfl
theorem e108:zM.fn 108=some Tryz.f108:=by kernel_rfl
theorem e109:zM.fn 109=some Tryz.f109:=by kernel_rfl
theorem e110:zM.fn 110=some Tryz.f110:=by kernel_rfl
theorem e111:zM.fn 111=some Tryz.f111:=by kernel_rfl
theorem t220:TQ0 220 false 1 [.nilFunc]:=kTQ0 (by kernel_rfl)
theorem t260:TQ0 260 false 1 [.nilFunc]:=kTQ0 (by kernel_rfl)
theorem e112:zM.fn 112=some Tryz.f112:=by kernel_rfl
theorem e113:zM.fn 113=some Tryz.f113:=by kernel_rfl
theorem e114:zM.fn 114=some Tryz.f114:=by kernel_rfl
theorem e115:zM.fn 115=some Tryz.f115:=by kernel_rfl
theorem t323:TQ3 323 true 2 [.slice none 0 0,.map none] [(0,1),(1,1)]:=kTQ3 (by kernel_rfl)
theorem r323:TR1 323 0 1:=⟨fun _ _ _=>⟨rfl,rfl⟩,fun _ _=>⟨rfl,rfl⟩⟩
theorem t325:TQ3 325 true 3 [.slice none 0 0,.map none,.int .i64 0] [(0,2),(2,1)]:=kTQ3 (by kernel_rfl)
theorem r325:TR9 325 0 2:=⟨fun _ _ _=>⟨rfl,rfl⟩,fun _ _ _=>⟨rfl,rfl⟩⟩
theorem e116:zM.fn 116=some Tryz.f116:=by kernel_rfl
theorem e117:zM.fn 117=some Tryz.f117:=by kernel_rfl
theorem e118:zM.fn 118=some Tryz.f118:=by kernel_rfl
theorem t199:TQ0 199 false 1 [.nilFunc]:=kTQ0 (by kernel_rfl)
theorem e119:zM.fn 119=some Tryz.f119:=by kernel_rfl
theorem e120:zM.fn 120=some Tryz.f120:=by kernel_rfl
theorem e121:zM.fn 121=some Tryz.f121:=by kernel_rfl
theorem e122:zM.fn 122=some Tryz.f122:=by kernel_rfl
theorem e123:zM.fn 123=some Tryz.f123:=by kernel_rfl
theorem e124:zM.fn 124=some Tryz.f124:=by kernel_rfl
theorem e125:zM.fn 125=some Tryz.f125:=by kernel_rfl
theorem e126:zM.fn 126=some Tryz.f126:=by kernel_rfl
theorem t271:TQ0 271 false 1 [.nilFunc]:=kTQ0 (by kernel_rfl)
theorem e127:zM.fn 127=some Tryz.f127:=by kernel_rfl
theorem e128:zM.fn 128=some Tryz.f128:=by kernel_rfl
theorem e129:zM.fn 129=some Tryz.f129:=by kernel_rfl
theorem e130:zM.fn 130=some Tryz.f130:=by kernel_rfl
theorem e131:zM.fn 131=some Tryz.f131:=by kernel_rfl
theorem e132:zM.fn 132=some Tryz.f132:=by kernel_rfl
theorem e133:zM.fn 133=some Tryz.f133:=by kernel_rfl
theorem e134:zM.fn 134=some Tryz.f134:=by kernel_rfl
theorem e135:zM.fn 135=some Tryz.f135:=by kernel_rfl
theorem t281:TQ0 281 false 1 [.nilFunc]:=kTQ0 (by kernel_rfl)
theorem e136:zM.fn 136=some Tryz.f136:=by kernel_rfl
theorem e137:zM.fn 137=some Tryz.f137:=by kernel_rfl
theorem e138:zM.fn 138=some Tryz.f138:=by kernel_rfl
theorem e139:zM.fn 139=some Tryz.f139:=by kernel_rfl
theorem e140:zM.fn 140=some Tryz.f140:=by kernel_rfl
theorem t221:TQ0 221 false 1 [.nilFunc]:=kTQ0 (by kernel_rfl)
theorem e141:zM.fn 141=some Tryz.f141:=by kernel_rfl
theorem e142:zM.fn 142=some Tryz.f142:=by kernel_rfl
theorem e143:zM.fn 143=some Tryz.f143:=by kernel_rfl
theorem e144:zM.fn 144=some Tryz.f144:=by kernel_rfl
theorem e145:zM.fn 145=some Tryz.f145:=by kernel_rfl
theorem e146:zM.fn 146=some Tryz.f146:=by kernel_rfl
theorem e147:zM.fn 147=some Tryz.f147:=by kernel_rfl
theorem e148:zM.fn 148=some Tryz.f148:=by kernel_rfl
theorem e149:zM.fn 149=some Tryz.f149:=by kernel_rfl
theorem e150:zM.fn 150=some Tryz.f150:=by kernel_rfl
theorem e151:zM.fn 151=some Tryz.f151:=by kernel_rfl
theorem e152:zM.fn 152=some Tryz.f152:=by kernel_rfl
theorem e153:zM.fn 153=some Tryz.f153:=by kernel_rfl
theorem e154:zM.fn 154=some Tryz.f154:=by kernel_rfl
theorem e155:zM.fn 155=some Tryz.f155:=by kernel_rfl
theorem e156:zM.fn 156=some Tryz.f156:=by kernel_rfl
theorem e157:zM.fn 157=some Tryz.f157:=by kernel_rfl
theorem t227:TQ0 227 false 1 [.nilFunc]:=kTQ0 (by kernel_rfl)
theorem e158:zM.fn 158=some Tryz.f158:=by kernel_rfl
theorem e159:zM.fn 159=some Tryz.f159:=by kernel_rfl
theorem e160:zM.fn 160=some Tryz.f160:=by kernel_rfl
theorem e161:zM.fn 161=some Tryz.f161:=by kernel_rfl
theorem t234:TQ0 234 false 1 [.nilFunc]:=kTQ0 (by kernel_rfl)
theorem e162:zM.fn 162=some Tryz.f162:=by kernel_rfl
theorem t235:TQ3 235 true 1 [.pointer none] [(0,1)]:=kTQ3 (by kernel_rfl)
theorem r235:TR2 235 0:=⟨fun _ _ _=>rfl,fun _=>rfl⟩
theorem e163:zM.fn 163=some Tryz.f163:=by kernel_rfl
theorem t287:TQ0 287 false 1 [.nilFunc]:=kTQ0 (by kernel_rfl)
theorem t289:TQ0 289 false 1 [.nilFunc]:=kTQ0 (by kernel_rfl)
theorem e289E:fV zM 289 8 1 [.nilFunc]:=⟨⟨_,rfl,by kernel_rfl,by kernel_rfl⟩,t289.2.2.1,rfl⟩
theorem t291:TQ6 291 (.slice 289) false 1 [.slice none 0 0]:=kTQ6 (by kernel_rfl)
theorem t293:TQ3 293 true 6 [.int .i64 0,.int .i64 0,.int .i64 0,.int .i64 0,.int .i64 0,.int .i64 0] [(0,1),(1,1),(2,1),(3,1),(4,1),(5,1)]:=kTQ3 (by kernel_rfl)
theorem r293:TR10 293 0 1 2 3 4 5:=⟨fun _ _ _=>⟨rfl,rfl,rfl,rfl,rfl,rfl⟩,fun _ _ _ _ _ _=>⟨rfl,rfl,rfl,rfl,rfl,rfl⟩⟩
theorem e293E:fV zM 293 48 6 [.int .i64 0,.int .i64 0,.int .i64 0,.int .i64 0,.int .i64 0,.int .i64 0]:=⟨⟨_,rfl,by kernel_rfl,by kernel_rfl⟩,t293.2.2.1,rfl⟩
theorem e164:zM.fn 164=some Tryz.f164:=by kernel_rfl
theorem e166:zM.fn 166=some Tryz.f166:=by kernel_rfl
theorem e167:zM.fn 167=some Tryz.f167:=by kernel_rfl
theorem e168:zM.fn 168=some Tryz.f168:=by kernel_rfl
theorem e169:zM.fn 169=some Tryz.f169:=by kernel_rfl
theorem e170:zM.fn 170=some Tryz.f170:=by kernel_rfl
theorem e171:zM.fn 171=some Tryz.f171:=by kernel_rfl
theorem e172:zM.fn 172=some Tryz.f172:=by kernel_rfl
theorem t101:TQ3 101 true 4 [.int .i64 0,.int .i64 0,.slice none 0 0,.slice none 0 0] [(0,1),(1,1),(2,1),(3,1)]:=kTQ3 (by kernel_rfl)
theorem r101:TR0 101 0 1 2 3:=⟨fun _ _ _=>⟨rfl,rfl,rfl,rfl⟩,fun _ _ _ _=>⟨rfl,rfl,rfl,rfl⟩⟩
theorem t307:TQ4 307 (.pointer 310) false 1 [.pointer none]:=kTQ4 (by kernel_rfl)
theorem t310:TQ3 310 true 5 [.pointer none,.slice none 0 0,.slice none 0 0,.slice none 0 0,.map none] [(0,1),(1,3),(4,1)]:=kTQ3 (by kernel_rfl)
theorem r310:TR11 310 0 1 4:=⟨fun _ _ _=>⟨rfl,rfl,rfl⟩,fun _ _ _ _ _=>⟨rfl,rfl,rfl⟩⟩
theorem t312:TQ0 312 false 1 [.nilFunc]:=kTQ0 (by kernel_rfl)
theorem e173:zM.fn 173=some Tryz.f173:=by kernel_rfl
theorem e174:zM.fn 174=some Tryz.f174:=by kernel_rfl
theorem e175:zM.fn 175=some Tryz.f175:=by kernel_rfl
theorem e176:zM.fn 176=some Tryz.f176:=by kernel_rfl
theorem e177:zM.fn 177=some Tryz.f177:=by kernel_rfl
theorem e178:zM.fn 178=some Tryz.f178:=by kernel_rfl
theorem e179:zM.fn 179=some Tryz.f179:=by kernel_rfl
theorem e180:zM.fn 180=some Tryz.f180:=by kernel_rfl
theorem t253:TQ0 253 false 1 [.nilFunc]:=kTQ0 (by kernel_rfl)
theorem e181:zM.fn 181=some Tryz.f181:=by kernel_rfl
theorem e182:zM.fn 182=some Tryz.f182:=by kernel_rfl
theorem e183:zM.fn 183=some Tryz.f183:=by kernel_rfl
theorem e184:zM.fn 184=some Tryz.f184:=by kernel_rfl
theorem e185:zM.fn 185=some Tryz.f185:=by kernel_rfl
theorem e186:zM.fn 186=some Tryz.f186:=by kernel_rfl
theorem e187:zM.fn 187=some Tryz.f187:=by kernel_rfl
theorem e188:zM.fn 188=some Tryz.f188:=by kernel_rfl
theorem e189:zM.fn 189=some Tryz.f189:=by kernel_rfl
theorem e190:zM.fn 190=some Tryz.f190:=by kernel_rfl
theorem t320:TQ0 320 false 1 [.nilFunc]:=kTQ0 (by kernel_rfl)
theorem e191:zM.fn 191=some Tryz.f191:=by kernel_rfl
theorem e192:zM.fn 192=some Tryz.f192:=by kernel_rfl
theorem e193:zM.fn 193=some Tryz.f193:=by kernel_rfl
theorem e194:zM.fn 194=some Tryz.f194:=by kernel_rfl
theorem t321:TQ6 321 (.slice 330) false 1 [.slice none 0 0]:=kTQ6 (by kernel_rfl)
theorem t330:TQ3 330 true 2 [.int .i64 0,.int .i64 0] [(0,1),(1,1)]:=kTQ3 (by kernel_rfl)
theorem r330:TR1 330 0 1:=⟨fun _ _ _=>⟨rfl,rfl⟩,fun _ _=>⟨rfl,rfl⟩⟩
theorem e330E:fV zM 330 16 2 [.int .i64 0,.int .i64 0]:=⟨⟨_,rfl,by kernel_rfl,by kernel_rfl⟩,t330.2.2.1,rfl⟩
theorem e195:zM.fn 195=some Tryz.f195:=by kernel_rfl
theorem t326:TQ1 326 (.int .u64) false 1 [.int .u64 0]:=kTQ1 (by kernel_rfl)
theorem e196:zM.fn 196=some Tryz.f196:=by kernel_rfl
theorem e197:zM.fn 197=some Tryz.f197:=by kernel_rfl
theorem e198:zM.fn 198=some Tryz.f198:=by kernel_rfl
theorem e199:zM.fn 199=some Tryz.f199:=by kernel_rfl
theorem e200:zM.fn 200=some Tryz.f200:=by kernel_rfl
theorem e201:zM.fn 201=some Tryz.f201:=by kernel_rfl
theorem e202:zM.fn 202=some Tryz.f202:=by kernel_rfl
theorem e203:zM.fn 203=some Tryz.f203:=by kernel_rfl
theorem e204:zM.fn 204=some Tryz.f204:=by kernel_rfl
theorem e205:zM.fn 205=some Tryz.f205:=by kernel_rfl
theorem e206:zM.fn 206=some Tryz.f206:=by kernel_rfl
theorem e207:zM.fn 207=some Tryz.f207:=by kernel_rfl
theorem e208:zM.fn 208=some Tryz.f208:=by kernel_rfl
theorem e209:zM.fn 209=some Tryz.f209:=by kernel_rfl
theorem e210:zM.fn 210=some Tryz.f210:=by kernel_rfl
theorem e211:zM.fn 211=some Tryz.f211:=by kernel_rfl
theorem e212:zM.fn 212=some Tryz.f212:=by kernel_rfl
theorem e213:zM.fn 213=some Tryz.f213:=by kernel_rfl
theorem e214:zM.fn 214=some Tryz.f214:=by kernel_rfl
theorem t283:TQ0 283 false 1 [.nilFunc]:=kTQ0 (by kernel_rfl)
theorem e215:zM.fn 215=some Tryz.f215:=by kernel_rfl
theorem e216:zM.fn 216=some Tryz.f216:=by kernel_rfl
theorem e217:zM.fn 217=some Tryz.f217:=by kernel_rfl
theorem e218:zM.fn 218=some Tryz.f218:=by kernel_rfl
theorem t284:TQ0 284 false 1 [.nilFunc]:=kTQ0 (by kernel_rfl)
theorem e219:zM.fn 219=some Tryz.f219:=by kernel_rfl
theorem e220:zM.fn 220=some Tryz.f220:=by kernel_rfl
theorem e221:zM.fn 221=some Tryz.f221:=by kernel_rfl
theorem t335:TQ6 335 (.slice 293) false 1 [.slice none 0 0]:=kTQ6 (by kernel_rfl)
theorem e222:zM.fn 222=some Tryz.f222:=by kernel_rfl
theorem e223:zM.fn 223=some Tryz.f223:=by kernel_rfl
theorem e224:zM.fn 224=some Tryz.f224:=by kernel_rfl
theorem e225:zM.fn 225=some Tryz.f225:=by kernel_rfl
theorem t286:TQ0 286 false 1 [.nilFunc]:=kTQ0 (by kernel_rfl)
theorem e226:zM.fn 226=some Tryz.f226:=by kernel_rfl
theorem e227:zM.fn 227=some Tryz.f227:=by kernel_rfl
theorem e228:zM.fn 228=some Tryz.f228:=by kernel_rfl
theorem e229:zM.fn 229=some Tryz.f229:=by kernel_rfl
theorem e234:zM.fn 234=some Tryz.f234:=by kernel_rfl
theorem e235:zM.fn 235=some Tryz.f235:=by kernel_rfl
theorem t311:TQ0 311 false 1 [.nilFunc]:=kTQ0 (by kernel_rfl)
theorem e236:zM.fn 236=some Tryz.f236:=by kernel_rfl
theorem e237:zM.fn 237=some Tryz.f237:=by kernel_rfl
theorem e238:zM.fn 238=some Tryz.f238:=by kernel_rfl
theorem e239:zM.fn 239=some Tryz.f239:=by kernel_rfl
theorem e240:zM.fn 240=some Tryz.f240:=by kernel_rfl
theorem e241:zM.fn 241=some Tryz.f241:=by kernel_rfl
theorem e242:zM.fn 242=some Tryz.f242:=by kernel_rfl
theorem e243:zM.fn 243=some Tryz.f243:=by kernel_rfl
theorem e244:zM.fn 244=some Tryz.f244:=by kernel_rfl
theorem e245:zM.fn 245=some Tryz.f245:=by kernel_rfl
theorem e246:zM.fn 246=some Tryz.f246:=by kernel_rfl
theorem e247:zM.fn 247=some Tryz.f247:=by kernel_rfl
theorem e248:zM.fn 248=some Tryz.f248:=by kernel_rfl
theorem e249:zM.fn 249=some Tryz.f249:=by kernel_rfl
theorem t362:TQ4 362 (.pointer 323) false 1 [.pointer none]:=kTQ4 (by kernel_rfl)
theorem e250:zM.fn 250=some Tryz.f250:=by kernel_rfl
theorem e251:zM.fn 251=some Tryz.f251:=by kernel_rfl
theorem e252:zM.fn 252=some Tryz.f252:=by kernel_rfl
theorem e253:zM.fn 253=some Tryz.f253:=by kernel_rfl
theorem e254:zM.fn 254=some Tryz.f254:=by kernel_rfl
theorem e255:zM.fn 255=some Tryz.f255:=by kernel_rfl
theorem e256:zM.fn 256=some Tryz.f256:=by kernel_rfl
theorem e257:zM.fn 257=some Tryz.f257:=by kernel_rfl
theorem t336:TQ0 336 false 1 [.nilFunc]:=kTQ0 (by kernel_rfl)
theorem e258:zM.fn 258=some Tryz.f258:=by kernel_rfl
theorem e259:zM.fn 259=some Tryz.f259:=by kernel_rfl
theorem t351:TQ0 351 false 1 [.nilFunc]:=kTQ0 (by kernel_rfl)
theorem e263:zM.fn 263=some Tryz.f263:=by kernel_rfl
theorem e264:zM.fn 264=some Tryz.f264:=by kernel_rfl
theorem e265:zM.fn 265=some Tryz.f265:=by kernel_rfl
theorem e266:zM.fn 266=some Tryz.f266:=by kernel_rfl
theorem e267:zM.fn 267=some Tryz.f267:=by kernel_rfl
theorem e268:zM.fn 268=some Tryz.f268:=by kernel_rfl
theorem e269:zM.fn 269=some Tryz.f269:=by kernel_rfl
theorem e272:zM.fn 272=some Tryz.f272:=by kernel_rfl
theorem e273:zM.fn 273=some Tryz.f273:=by kernel_rfl
theorem e274:zM.fn 274=some Tryz.f274:=by kernel_rfl
theorem e275:zM.fn 275=some Tryz.f275:=by kernel_rfl
theorem e276:zM.fn 276=some Tryz.f276:=by kernel_rfl
theorem e277:zM.fn 277=some Tryz.f277:=by kernel_rfl
theorem e278:zM.fn 278=some Tryz.f278:=by kernel_rfl
theorem e279:zM.fn 279=some Tryz.f279:=by kernel_rfl
theorem e280:zM.fn 280=some Tryz.f280:=by kernel_rfl
theorem e282:zM.fn 282=some Tryz.f282:=by kernel_rfl
theorem e283:zM.fn 283=some Tryz.f283:=by kernel_rfl
theorem e284:zM.fn 284=some Tryz.f284:=by kernel_rfl
theorem e285:zM.fn 285=some Tryz.f285:=by kernel_rfl
theorem e287:zM.fn 287=some Tryz.f287:=by kernel_rfl
end Tryz
set_option maxRecDepth 100000
def FA0:=aj t1<|aj t2<|aj t3<|aj t4<|aj t5<|aj t6<|aj t41<|aj t192<|aj t32<|aj t79<|aj t168<|aj r168<|aj t7<|aj r7<|aj t52<|aj t98<|aj t126<|aj r126<|aj t127<|aj t20<|aj t40<|aj t43<|aj r43<|aj t44<|aj t122<|aj r122<|aj t143<|aj r143<|aj t28<|aj t31<|aj t33<|aj t34<|aj t36<|aj r36<|aj t124<|aj t8<|aj r8<|aj t9<|aj t10<|aj t11<|aj t12<|aj t13<|aj r13<|aj t14<|aj r14<|aj t15<|aj t16<|aj t17<|aj t18<|aj r18<|aj t19<|aj r19<|aj t22<|aj t23<|aj t24<|aj t26<|aj r26<|aj t48<|aj r48<|aj t57<|aj r57<|aj t90<|aj t92<|aj r92<|aj t177<|aj r177<|aj t182<|aj t252<|aj r252<|aj t302<|aj t357<|aj t367<|aj r367<|aj t368<|aj t370<|aj t372<|aj t373<|aj t374<|aj t375<|aj t377<|aj r377<|aj t55<|aj t135<|aj r135<|aj t96<|aj r96<|aj t100<|aj t102<|aj r102<|aj t39<|aj r39<|aj t27<|aj t188<|aj r188<|aj t257<|aj t199<|aj t200<|aj t203<|aj t171<|aj t185<|aj t230<|aj t261<|aj t321<|aj t323<|aj r323<|aj t325<|aj r325<|aj t330<|aj r330<|aj t206<|aj t207<|aj t208<|aj t210<|aj r210<|aj t271<|aj t212<|aj t213<|aj t272<|aj t274<|aj r274<|aj t281<|aj t183<|aj t220<|aj t260<|aj t132<|aj t283<|aj t326<|aj t311<|aj t312<|aj t351<|aj t245<|aj r245<|aj t307<|aj t310<|aj r310<|aj t101<|aj r101<|aj t131<|aj t253<|aj t362<|aj t21<|aj t25<|aj r25<|aj t29<|aj t30<|aj t35<|aj r35<|aj t37<|aj t38<|aj r38<|aj t42<|aj r42<|aj t46<|aj t47<|aj r47<|aj t71<|aj t73<|aj r73<|aj t75<|aj t87<|aj t138<|aj t140<|aj t144<|aj t145<|aj t195<|aj t264<|aj r264<|aj t110<|aj t112<|aj r112<|aj t113<|aj t114<|aj t221<|aj t117<|aj t118<|aj t286<|aj t287<|aj t293<|aj r293<|aj t335<|aj t336<|aj t241<|aj t155<|aj r155<|aj t157<|aj t159<|aj r159<|aj t120<|aj t235<|aj r235<|aj t289<|aj t291<|aj t163<|aj t164<|aj t166<|aj t172<|aj t320<|aj t174<|aj t148<|aj t149<|aj t234<|aj t151<|aj t104<|aj r104<|aj t204<|aj t227<|aj t228<|t284
def BZ:=aj BS<|aj LB<|FA0
theorem erA{f:FuncId}{a:Func}{Q:Value->Hp->Prop}(hf:E.fn f=some a)(c:Run E (lim E) ⟨f,n,none⟩ (oV E rs (RetQ Q)) [.code body] .normal (LL n (cL args) [] none) h)(d:E.orc f args=none:=by exact rfl)(e:a.body=some body:=by exact rfl)(g:a.ntmps=n:=by exact rfl)(b:a.results.toList=rs:=by exact rfl)(hle:args.length<=n:=by exact lbt rfl):Ret E f args h Q:=enter_ret d hf e g b hle c
theorem enA{f:FuncId}{a:Func}{rc:Option (Value×Bool)}{Q:Out->Option (Value×Bool)->Hp->Prop}(hf:E.fn f=some a)(c:Run E (lim E) ⟨f,n,none⟩ (oV E rs Q) [.code body] .normal (LL n (cL args) [] rc) h)(d:E.orc f args=none:=by exact rfl)(e:a.body=some body:=by exact rfl)(g:a.ntmps=n:=by exact rfl)(b:a.results.toList=rs:=by exact rfl)(hle:args.length<=n:=by exact lbt rfl):eB E f args rc h Q:=enter d hf e g b hle c
theorem stA(S:St M h0 h L G){t:TypeId}{s:Option Nat}{l:List Value}{v:Value}(c:E.sz t=some n)(hf:(ac v).all mr=true:=by exact rfl)(d:L[i]? =some (b,.row l md):=by exact rfl)(f:(ac v).length=n:=by exact rfl)(g: ∀x,v≠ .chan x:=by intro x e;cases e)(j:off+n<=l.length:=by exact lbt rfl)(a:md≠0:=by exact ono): ∃h',jH E h t (.pointer (some ⟨b,off,s⟩)) v=some h'/\St M h0 h' (L.set i (b,.row (lay l off (ac v)) md)) G/\Mo (· =b) h h':=S.store d c g f hf j a
set_option maxRecDepth 10000
theorem values(c:OZ h0){v:Value}(d:Fl v):Ret zM 257 [v] h0 fun r h'=>Gr h0 h'/\ ∃b,r=.func (.func 277) #[] #[ptrTo b]/\h0.n<=b/\h'.load b 0 1=some [v]:=by have S:=Si c;refine erA (n:=4) (rs:=[.tmp 2]) Tryz.e257 ?_;simp only [BZ,seval];refine ab (bz (by assumption)) S ?_;clear S;intro h b S a;simp only [BZ,aa,seval];exact⟨S.gr,b,rfl,a,S.ld m0 rfl⟩
theorem xn(d:OZ h0){v:Value}{ps:List Pl}(u:h0.load b 0 1=some [v])(m:aw h0 6 mj v ps)(q:ps.length<1000):Iter zM 277 [] [ptrTo b] h0 (fun c=>c=b\/ar v c) (ps.map fun p=>[.agg ⟨mj p⟩]):=by
 refine wz fun x J Z Y h F s j=>?_;refine enA (n:=16) (rs:=[]) Tryz.e277 ?_;have k:=s.load d u (.inl rfl);have e:=s.sl d m (fun b h=>.inr h);simp only [BZ,k,e.lenq,seval];refine aX (fun(i:Nat) f h=>i<=ps.length/\ ∃F,ItS h0 (fun c=>c=b\/ar v c) h F/\J i h F/\f 0=.func (.yield x) #[] #[]/\f 5=v/\f 6=.int .i64 ps.length/\f 7=.int .i64 i) (fun i=>ps.length-i) ?_ 0 _ _ ?_
 . intro i y f h ⟨hi,F,s,j,r0,r5,r6,r7⟩;by_cases hlt:i<ps.length
   . have e:=s.sl d m (fun b h=>.inr h);obtain⟨c,o,g,l⟩:=e.ix (kd:=.i64) encP_len hlt;have S:=Si s.ok;have w:am .i64 ((i:Int)+1)=((i+1:Nat):Int):=(by rw [wrap64]<;>omega);simp only [BZ,r5,r6,r7,aE,hlt,g,l,seval];refine ab au S ?_;clear S;intro h z S r;simp only [BZ,mj,seval];refine az (stA S (i:=0) Tryz.t293.2.1) ?_;clear S;rintro h ⟨S,A⟩;clear A;simp only [LC,ac,lay,Xd,Xe,seval]at S;simp only [BZ,r0,S.lds (b:=z) (o:=0) (n:=6) m0 (lbt rfl),seval];refine c7 Y (s.gr S.gr) (Y.gr _ _ _ _ j S.gr) (i:=i) (by simp [hlt,mj]) ?_ ?_ ?_
     . intro t B a C _ _;simp only [BZ,r7,w,seval];exact y (i+1) _ _ (by omega) ⟨by omega,B,C,a,by simp [aB,r0,r5,r6]⟩
     . intro t a _;simp only [BZ,seval];exact gJ rfl ⟨rfl,.inr (.inl ⟨_,rfl,a⟩)⟩
     . intro v t a;simp only [BZ];exact iH (cy ⟨rfl,.inr (.inr ⟨_,rfl,a⟩)⟩)
   . simp only [BZ,r6,r7,aE,hlt,seval];have:i=ps.length:=(by omega);subst this;exact bU (cy ⟨rfl,_,rfl,rfl,.inl ⟨_,F,rfl,by simpa using j⟩⟩)
 . exact⟨by omega,F,s,j,by simp [aB,cL]⟩
def qi(f g:Nat)(v:Value)(h':Hp):Prop:= ∃d a b,∃(e:List Pl) (D:Nat->Prop),v=.func (.func d) a b/\Iter zM d a.toList b.toList h' D (e.map fun p=>[.agg ⟨mj p⟩])/\(∀p∈e,p.lo<=p.n/\p.n<p.hi)/\ ∀c,D c->c<f\/g<=c
theorem one_ok(k:OZ h0){c n a d:Int}(l:a<=n)(m:n<d):Ret zM 222 [.int .i64 c,.int .i64 n,.int .i64 a,.int .i64 d] h0 fun v h'=>Gr h0 h'/\qi 0 h0.n v h':=by
 have S:=Si k;refine erA (n:=16) (rs:=[.tmp 8]) Tryz.e222 ?_;simp only [BZ,seval];refine ab (bZ (by exact Tryz.t335.1) (by exact Tryz.e293E) (by decide) (by rfl)) S ?_;clear S;intro h b S f;simp only [LC,bJ,cd,ac,Xm,Xi,Xj,Xp,seval]at S;simp only [BZ,seval];have q:=S.fr.n;refine step_ret (values S.ok bH) ?_;intro v h ⟨g,b2,e,n2,l2⟩;replace S:=S.call g;subst e;simp only [BZ,aa,seval];have r:aw h 6 mj (.slice (some ⟨b,0,none⟩) 1 1) [⟨0,0,c,n,a,d⟩]:=.inr ⟨b,0,none,1,rfl,XD _,S.lds (b:=b) (o:=0) (n:=1*6) m0 (lbt rfl)⟩;exact⟨S.gr,_,#[],#[ptrTo b2],_,_,rfl,xn S.ok l2 r (by simp),by intro p j;simp at j;subst j;exact⟨l,m⟩,fun c i=>by rcases i with rfl|i;exact .inr (by omega);cases i;exact .inr f⟩
theorem shapes_ok(t:OZ h0){a:Gra}(d:mC a){k l m:Value}(r:eg h0 k l m a):Ret zM 224 [ni a k l m] h0 fun v h'=>Gr h0 h'/\qi 0 h0.n v h':=by
 have S:=Si t;have z:=d.n1;have A:=d.n2;have w:am .i64 ((a.nodes:Int)+1)=((a.nodes+1:Nat):Int):=by rw [wrap64]<;>omega
 refine erA (n:=22) (rs:=[.tmp 2]) Tryz.e224 ?_;simp only [BZ,ni,seval];refine ab (aW (by intro x e;cases e)) S ?_;clear S;intro h b S u;simp only [ac]at S;simp only [BZ,r.X.lenq,r.Y.lenq,w,S.ld (b:=b) (o:=0) m0 rfl,S.ld (b:=b) (o:=1) m0 rfl,S.ld (b:=b) (o:=2) m0 rfl,seval];refine ab (bZ (by exact Tryz.t335.1) (by exact Tryz.e293E) (by decide) (by rfl)) S ?_;clear S;intro h i S f;simp only [LC,bJ,cd,ac,Xm,Xi,Xj,Xp,seval]at S;simp only [BZ,seval];have q:=S.fr.n;refine step_ret (values S.ok bH) ?_;intro v h ⟨g,b2,e,n2',l2⟩;replace S:=S.call g;subst e;simp only [BZ,aa,seval];have y:aw h 6 mj (.slice (some ⟨i,0,none⟩) 2 2) [⟨0,0,6,a.X.length,a.nodes,(a.nodes+1:Nat)⟩,⟨0,1,6,a.Y.length,a.nodes,(a.nodes+1:Nat)⟩]:=.inr ⟨i,0,none,2,rfl,XD _,S.lds (b:=i) (o:=0) (n:=2*6) m0 (lbt rfl)⟩;refine⟨S.gr,_,#[],#[ptrTo b2],_,_,rfl,xn S.ok l2 y (by simp),?_,fun c j=>by rcases j with rfl|j;exact .inr (by omega);cases j;exact .inr f⟩;intro p s;have:=d.lX;have:=d.lY;simp at s;rcases s with rfl|rfl<;>(simp only [];omega)
theorem nodes_ok(i:OZ h0){c d g:Value}:Ret zM 226 [.agg ⟨[g,c,d,f]⟩] h0 fun v h'=>Gr h0 h'/\ ∃b,v=.func (.func 258) #[] #[ptrTo b]/\h0.n<=b/\Row h' b [g,c,d,f] 1:=by have S:=Si i;refine erA (n:=4) (rs:=[.tmp 2]) Tryz.e226 ?_;simp only [BZ,seval];refine ab (aW (by intro x e;cases e)) S ?_;clear S;intro h b S a;simp only [ac]at S;simp only [BZ,aa,seval];exact⟨S.gr,b,rfl,a,S.row m0⟩
theorem arcs_ok(i:OZ h0){c d g:Value}:Ret zM 229 [.agg ⟨[g,c,d,f]⟩] h0 fun v h'=>Gr h0 h'/\ ∃b,v=.func (.func 259) #[] #[ptrTo b]/\h0.n<=b/\Row h' b [g,c,d,f] 1:=by have S:=Si i;refine erA (n:=4) (rs:=[.tmp 2]) Tryz.e229 ?_;simp only [BZ,seval];refine ab (aW (by intro x e;cases e)) S ?_;clear S;intro h b S a;simp only [ac]at S;simp only [BZ,aa,seval];exact⟨S.gr,b,rfl,a,S.row m0⟩
def plN(X Y:List Int):List Pl:=(Xa X.length).flatMap fun(i:Nat)=>[⟨i,0,7,X.getD i 0,-2147483648,2147483648⟩,⟨i,1,7,Y.getD i 0,-2147483648,2147483648⟩]
theorem plN_len(X Y:List Int):(plN X Y).length=2*X.length:=by unfold plN;rw [XY];simp [XZ];omega
theorem plN_at(X Y:List Int)(c:i<X.length):(plN X Y)[2*i]? =some ⟨i,0,7,X.getD i 0,-2147483648,2147483648⟩/\(plN X Y)[2*i+1]? =some ⟨i,1,7,Y.getD i 0,-2147483648,2147483648⟩:=by
 unfold plN;have b: ∀(n j:Nat) (f:Nat->Pl) (k:Nat->Pl),j<n->((Xa n).flatMap fun i=>[f i,k i])[2*j]? =some (f j)/\((Xa n).flatMap fun i=>[f i,k i])[2*j+1]? =some (k j):=by
  intro n
  induction n with
  |zero=>intro j f k d;omega| succ n e=>
    intro j f k d;have a:((Xa n).flatMap fun i=>[f i,k i]).length=2*n:=(by rw [XY];simp [XZ];omega);rw [Yd,Xx];by_cases h:j<n
    . rw [XB (by omega),XB (by omega)];exact e j f k h
    . have:j=n:=(by omega);subst this;rw [Xr (by omega),Xr (by omega),a];simp
 exact b _ _ _ _ c
theorem EJ(d:OZ h0){l m K L:Value}{X Y:List Int}(t:Row h0 b [L,l,m,K] 1)(G:aw h0 1 (encI .i64) l X)(M:aw h0 1 (encI .i64) m Y)(hl:X.length=Y.length)(H:X.length<1000):Iter zM 258 [] [ptrTo b] h0 (fun c=>c=b\/ar l c\/ar m c) ((plN X Y).map fun p=>[.agg ⟨mj p⟩]):=by
 refine wz fun N J Z u h F s r=>?_;refine enA (n:=38) (rs:=[]) Tryz.e258 ?_;have x:=s.load d (t.load1 (o:=1) rfl) (.inl rfl);simp only [BZ,x,G.lenq,seval];refine aX (fun(i:Nat) g h=>i<=X.length/\ ∃F,ItS h0 (fun c=>c=b\/ar l c\/ar m c) h F/\J (2*i) h F/\g 0=.func (.yield N) #[] #[]/\g 1=ptrTo b/\g 8=.int .i64 X.length/\g 9=.int .i64 i) (fun i=>X.length-i) ?_ 0 _ _ ?_
 . intro i O g h ⟨hi,F,s,r,r0,r1,r8,r9⟩;by_cases hlt:i<X.length
   . have y:=s.sl d G (fun b h=>.inr (.inl h));have z:=s.sl d M (fun b h=>.inr (.inr h));have x:=s.load d (t.load1 (o:=1) rfl) (.inl rfl);have P:=s.load d (t.load1 (o:=2) rfl) (.inl rfl);obtain⟨c,o,j,A⟩:=y.ix (kd:=.i64) (bR _) hlt;obtain⟨c2,o2,f,k⟩:=z.ix (kd:=.i64) (bR _) (i:=i) (by omega);have S:=Si s.ok;have w:am .i64 ((i:Int)+1)=((i+1:Nat):Int):=(by rw [wrap64]<;>omega);simp only [BZ,r8,r9,aE,hlt,seval];refine ao (av rfl) (q:=1024) (ps:=[]) (by kernel_rfl) ?_;simp only [BZ,cls,r1,x,P,j,f,A,k,encI,seval];refine cV (bZ (by exact Tryz.t23.1) (by exact Tryz.e2E) (by decide) (by rfl)) S ?_;clear S;intro h e S B C;simp only [LC,bJ,cd,ac,Xm,Xi,Xj,Xp,seval]at S;simp only [BZ,cls,Xb,seval];have Q:am .i64 1=1:=rfl;have T:am .i64 2=2:=rfl;have I:=plN_at X Y hlt;rw [cE];simp only [BZ,Xb,r0,S.ld (b:=e) (o:=0) m0 rfl,S.ld (b:=e) (o:=1) m0 rfl,seval];refine c7 u (s.gr S.gr) (u.gr _ _ _ _ r S.gr) (i:=2*i) (by rw [Xn,I.1];simp [mj,zO,hlt]) ?_ ?_ ?_
     . intro U F2 a V D _;have W:e∉F:=fun hm=>(by have:=s.lt _ hm;omega);have R:Row U e _ 1:=(S.row m0).of_get (D.get _ ((S.row m0).lt S.ok) W);have R1:=R.load1 (o:=1) rfl;have ad:True:=trivial;simp only [BZ,Q,seval];rw [cE];simp only [BZ,Xb,r0,R1,seval];refine c7 u V a (i:=2*i+1) (by rw [Xn,I.2];simp [mj,zO,show i<Y.length by omega]) ?_ ?_ ?_
       . intro h3 F3 a s3 _ _;simp only [BZ,T,seval];rw [cE];simp only [BZ,r9,w,seval];exact O (i+1) _ _ (by omega) ⟨by omega,F3,s3,a,by simp [aB,r0,r1,r8]⟩
       . intro E a _;simp only [BZ,seval];exact gJ rfl ⟨rfl,.inr (.inl ⟨_,rfl,a⟩)⟩
       . intro v E a;simp only [BZ];exact iH (cy ⟨rfl,.inr (.inr ⟨_,rfl,a⟩)⟩)
     . intro E a _;simp only [BZ,seval];exact gJ rfl ⟨rfl,.inr (.inl ⟨_,rfl,a⟩)⟩
     . intro v E a;simp only [BZ];exact iH (cy ⟨rfl,.inr (.inr ⟨_,rfl,a⟩)⟩)
   . simp only [BZ,r8,r9,aE,hlt,seval];have:i=X.length:=(by omega);subst this;exact bU (cy ⟨rfl,_,rfl,rfl,.inl ⟨_,F,rfl,by simpa [plN_len]using r⟩⟩)
 . exact⟨by omega,F,s,r,by simp [aB,cL,ah]⟩
def plA(n:Nat)(A:List Arc):List Pl:=(Xa A.length).flatMap fun(i:Nat)=>[⟨i,0,9,(A.getD i default).s,0,n⟩,⟨i,1,9,(A.getD i default).t,0,n⟩,⟨i,2,10,(A.getD i default).w,0,2147483648⟩]
theorem flat3_at{b:Type}(f k l:Nat->b): ∀(n j:Nat),j<n->((Xa n).flatMap fun i=>[f i,k i,l i])[3*j]? =some (f j)/\((Xa n).flatMap fun i=>[f i,k i,l i])[3*j+1]? =some (k j)/\((Xa n).flatMap fun i=>[f i,k i,l i])[3*j+2]? =some (l j):=by
 intro n
 induction n with
 |zero=>intro j c;omega| succ n d=>
   intro j c;have a:((Xa n).flatMap fun i=>[f i,k i,l i]).length=3*n:=(by rw [XY];simp [XZ];omega);rw [Yd,Xx];by_cases h:j<n
   . rw [XB (by omega),XB (by omega),XB (by omega)];exact d j h
   . have:j=n:=(by omega);subst this;rw [Xr (by omega),Xr (by omega),Xr (by omega),a];simp
theorem plA_len(n:Nat)(A:List Arc):(plA n A).length=3*A.length:=by unfold plA;rw [XY];simp [XZ];omega
theorem arcs_iter(d:OZ h0){V l:Value}{A:List Arc}(G:Row h0 b [.int .i64 n,U,V,l] 1)(H:aw h0 3 cQ l A)(I:A.length<1000):Iter zM 259 [] [ptrTo b] h0 (fun c=>c=b\/ar l c) ((plA n A).map fun p=>[.agg ⟨mj p⟩]):=by
 refine wz fun W J Z g h F s r=>?_;refine enA (n:=44) (rs:=[]) Tryz.e259 ?_;have X:=s.load d (G.load1 (o:=0) rfl) (.inl rfl);have Y:=s.load d (G.load1 (o:=3) rfl) (.inl rfl);simp only [BZ,X,Y,H.lenq,seval];refine aX (fun(i:Nat) j h=>i<=A.length/\ ∃F,ItS h0 (fun c=>c=b\/ar l c) h F/\J (3*i) h F/\j 0=.func (.yield W) #[] #[]/\j 3=.int .i64 n/\j 11=l/\j 12=.int .i64 A.length/\j 13=.int .i64 i) (fun i=>A.length-i) ?_ 0 _ _ ?_
 . intro i ih j h ⟨hi,F,s,r,r0,r3,r11,r12,r13⟩;by_cases hlt:i<A.length
   . have t:=s.sl d H (fun b h=>.inr h);obtain⟨c,o,m,u⟩:=t.ix (kd:=.i64) jS hlt;have S:=Si s.ok;have w:am .i64 ((i:Int)+1)=((i+1:Nat):Int):=(by rw [wrap64]<;>omega);have w1:am .i64 1=1:=rfl;have w2:am .i64 2=2:=rfl;have w3:am .i64 3=3:=rfl;have x:=flat3_at (fun(i:Nat)=>(⟨i,0,9,(A.getD i default).s,0,n⟩:Pl)) (fun(i:Nat)=>⟨i,1,9,(A.getD i default).t,0,n⟩) (fun(i:Nat)=>⟨i,2,10,(A.getD i default).w,0,2147483648⟩) A.length i hlt;have y:A.getD i default=A[i]:=(by simp [zO,hlt]);simp only [BZ,r11,r12,r13,aE,hlt,m,u,seval];refine ab au S ?_;clear S;intro h z S K;simp only [BZ,cQ,seval];refine az (stA S (i:=0) Tryz.t135.2.1) ?_;clear S;rintro h ⟨S,e⟩;clear e;simp only [LC,ac,lay,Xd,Xe,seval]at S;simp only [BZ,r3,S.ld (b:=z) (o:=0) m0 rfl,S.ld (b:=z) (o:=1) m0 rfl,S.ld (b:=z) (o:=2) m0 rfl,seval];refine ab (bZ (by exact Tryz.t335.1) (by exact Tryz.e293E) (by decide) (by rfl)) S ?_;clear S;intro h f S L;simp only [LC,bJ,cd,ac,Xm,Xi,Xj,Xp,seval]at S;simp only [BZ,Xb,seval];have M:f∉F:=fun k=>(by have:=s.lt _ k;omega);have R:Row h f _ 1:=S.row m0;have ad:=R.lt S.ok;rw [cE];simp only [BZ,Xb,S.lds (b:=f) (o:=0) (n:=6) m0 (lbt rfl),seval];refine ab au S ?_;clear S;intro h b7 S N;simp only [BZ,XE,XL,XV,seval];refine az (stA S (i:=0) Tryz.t293.2.1) ?_;clear S;rintro h ⟨S,e⟩;clear e;simp only [LC,ac,lay,Xd,Xe,seval]at S;simp only [BZ,r0,S.lds (b:=b7) (o:=0) (n:=6) m0 (lbt rfl),seval];have R:Row h f _ 1:=S.row m1;refine c7 g (s.gr S.gr) (g.gr _ _ _ _ r S.gr) (i:=3*i) (by rw [Xn,show(plA n A)[3*i]? =_ from x.1,y];simp [mj]) ?_ ?_ ?_
     . intro h2 F2 a O B C;have R0:=R;replace R:Row h2 f _ 1:=R.of_get (B.get _ (R.lt S.ok) M);have D:f∉F2:=fun k=>by
        rcases C _ k with k|k
        . exact M k
        . have:=R0.lt S.ok;omega
       have S:=Si O.ok;simp only [BZ,w1,seval];rw [cE];simp only [BZ,Xb,R.load (o:=6) (n:=6) (lbt rfl),seval];refine ab au S ?_;clear S;intro h b8 S P;simp only [BZ,YA,XE,XL,XV,seval];refine az (stA S (i:=0) Tryz.t293.2.1) ?_;clear S;rintro h ⟨S,e⟩;clear e;simp only [LC,ac,lay,Xd,Xe,seval]at S;simp only [BZ,r0,S.lds (b:=b8) (o:=0) (n:=6) m0 (lbt rfl),seval];replace R:=R.gr S.gr;refine c7 g (O.gr S.gr) (g.gr _ _ _ _ a S.gr) (i:=3*i+1) (by rw [Xn,show(plA n A)[3*i+1]? =_ from x.2.1,y];simp [mj]) ?_ ?_ ?_
       . intro h3 F3 a Q E af;replace R:Row h3 f _ 1:=R.of_get (E.get _ (R.lt S.ok) D);have S:=Si Q.ok;simp only [BZ,w2,seval];rw [cE];simp only [BZ,Xb,R.load (o:=12) (n:=6) (lbt rfl),seval];refine ab au S ?_;clear S;intro h b9 S T;simp only [BZ,YA,XE,XL,XV,seval];refine az (stA S (i:=0) Tryz.t293.2.1) ?_;clear S;rintro h ⟨S,e⟩;clear e;simp only [LC,ac,lay,Xd,Xe,seval]at S;simp only [BZ,r0,S.lds (b:=b9) (o:=0) (n:=6) m0 (lbt rfl),seval];refine c7 g (Q.gr S.gr) (g.gr _ _ _ _ a S.gr) (i:=3*i+2) (by rw [Xn,show(plA n A)[3*i+2]? =_ from x.2.2,y];simp [mj]) ?_ ?_ ?_
         . intro h4 F4 a s4 ai ak;simp only [BZ,w3,seval];rw [cE];simp only [BZ,r13,w,seval];exact ih (i+1) _ _ (by omega) ⟨by omega,F4,s4,a,by simp [aB,r0,r3,r11,r12]⟩
         . intro q a _;simp only [BZ,seval];exact gJ rfl ⟨rfl,.inr (.inl ⟨_,rfl,a⟩)⟩
         . intro v q a;simp only [BZ];exact iH (cy ⟨rfl,.inr (.inr ⟨_,rfl,a⟩)⟩)
       . intro q a _;simp only [BZ,seval];exact gJ rfl ⟨rfl,.inr (.inl ⟨_,rfl,a⟩)⟩
       . intro v q a;simp only [BZ];exact iH (cy ⟨rfl,.inr (.inr ⟨_,rfl,a⟩)⟩)
     . intro q a _;simp only [BZ,seval];exact gJ rfl ⟨rfl,.inr (.inl ⟨_,rfl,a⟩)⟩
     . intro v q a;simp only [BZ];exact iH (cy ⟨rfl,.inr (.inr ⟨_,rfl,a⟩)⟩)
   . simp only [BZ,r12,r13,aE,hlt,seval];have:i=A.length:=(by omega);subst this;exact bU (cy ⟨rfl,_,rfl,rfl,.inl ⟨_,F,rfl,by simpa [plA_len]using r⟩⟩)
 . exact⟨by omega,F,s,r,by simp [aB,cL]⟩
theorem look1_ok(d:OZ h0){c:Gra}(a:mC c){i:Value}(j:Row h0 b [.int .i64 c.nodes,e,f,i] 1):Ret zM 221 [ptrTo b] h0 fun v h'=>Gr h0 h'/\qi 0 h0.n v h':=by have S:=Si d;have k:=a.n1;have l:=a.n2;refine erA (n:=5) (rs:=[.tmp 1]) Tryz.e221 ?_;simp only [BZ,j.load1 (o:=0) rfl,seval];refine step_ret (one_ok S.ok (by omega) (by omega)) ?_;intro v h ⟨g,t⟩;replace S:=S.call g;simp only [BZ,aa,seval];exact⟨S.gr,t⟩
theorem look2_ok(i:OZ h0){a:Gra}(c:mC a){d:Value}(j:eg h0 d e f a)(k:Row h0 b [.int .i64 a.nodes,d,e,f] 1):Ret zM 223 [ptrTo b] h0 fun v h'=>Gr h0 h'/\qi 0 h0.n v h':=by have S:=Si i;refine erA (n:=4) (rs:=[.tmp 1]) Tryz.e223 ?_;simp only [BZ,k.load (o:=0) (n:=4) (lbt rfl),seval];refine step_ret (shapes_ok S.ok c j) ?_;intro v h ⟨g,t⟩;replace S:=S.call g;simp only [BZ,aa,seval];exact⟨S.gr,t⟩
theorem look4_ok(i:OZ h0){a:Gra}(c:mC a){d:Value}(j:eg h0 d e f a)(k:Row h0 b [.int .i64 a.nodes,d,e,f] 1):Ret zM 227 [ptrTo b] h0 fun v h'=>Gr h0 h'/\qi 0 h0.n v h':=by have S:=Si i;have l:=c.many;refine erA (n:=6) (rs:=[.tmp 1]) Tryz.e227 ?_;simp only [BZ,k.load1 (o:=3) rfl,j.A.lenq,seval];refine step_ret (one_ok S.ok (by omega) (by omega)) ?_;intro v h ⟨g,t⟩;replace S:=S.call g;simp only [BZ,aa,seval];exact⟨S.gr,t⟩
theorem look3_ok(u:OZ h0){d:Gra}(a:mC d){k l:Value}(s:eg h0 k l r d)(w: ∀c,ar k c->c<m)(x: ∀c,ar l c->c<m)(y:Row h0 b [.int .i64 d.nodes,k,l,r] 1):Ret zM 225 [ptrTo b] h0 fun v h'=>Gr h0 h'/\qi m h0.n v h':=by
 have S:=Si u;have z:=a.n2;have A:=a.lX;have B:=a.lY;refine erA (n:=4) (rs:=[.tmp 1]) Tryz.e225 ?_;simp only [BZ,y.load (o:=0) (n:=4) (lbt rfl),seval];refine step_ret (nodes_ok S.ok) ?_;intro v h ⟨g,b2,e,q2,R⟩;replace S:=S.call g;subst e;simp only [BZ,aa,seval];refine⟨S.gr,_,#[],#[ptrTo b2],_,_,rfl,EJ S.ok R (s.X.gr S.gr) (s.Y.gr S.gr) (by omega) (by omega),fun p q=>?_,fun c f=>?_⟩
 . unfold plN at q;simp only [List.mem_flatMap,Yu,XS,X8,or_false]at q;obtain⟨i,t,rfl|rfl⟩:=q
   . have:=a.cX d.X[i] (Xw t);simp only [zO,Xf t,Xz];omega
   . have j:i<d.Y.length:=(by omega);have:=a.cY d.Y[i] (Xw j);simp only [zO,Xf j,Xz];omega
 . rcases f with rfl|f|f
   . exact .inr q2
   . exact .inl (w c f)
   . exact .inl (x c f)
theorem look5_ok(s:OZ h0){d:Gra}(a:mC d){l m:Value}(t:eg h0 l m f d)(u: ∀c,ar f c->c<q)(w:Row h0 b [.int .i64 d.nodes,l,m,f] 1):Ret zM 228 [ptrTo b] h0 fun v h'=>Gr h0 h'/\qi q h0.n v h':=by
 have S:=Si s;have x:=a.many;refine erA (n:=4) (rs:=[.tmp 1]) Tryz.e228 ?_;simp only [BZ,w.load (o:=0) (n:=4) (lbt rfl),seval];refine step_ret (arcs_ok S.ok) ?_;intro v h ⟨g,b2,e,q2,R⟩;replace S:=S.call g;subst e;simp only [BZ,aa,seval];refine⟨S.gr,_,#[],#[ptrTo b2],_,_,rfl,arcs_iter S.ok R (t.A.gr S.gr) (by omega),fun p j=>?_,fun c k=>?_⟩
 . unfold plA at j;simp only [List.mem_flatMap,Yu,XS,X8,or_false]at j;obtain⟨i,r,h⟩:=j;have:=a.arcs d.arcs[i] (Xw r);simp only [zO,Xf r,Xz]at h;rcases h with rfl|rfl|rfl<;>(simp only [];omega)
 . rcases k with rfl|k
   . exact .inr q2
   . exact .inl (u c k)
theorem look_ok(u:OZ h0){N:Gra}(k:mC N){Y Z va:Value}(z:eg h0 Y Z va N):Ret zM 164 [ni N Y Z va] h0 fun v h'=>Gr h0 h':=by
 have S:=Si u;refine erA (n:=44) (rs:=[]) Tryz.e164 ?_;simp only [BZ,ni,seval];refine ab (aW (by intro x e;cases e)) S ?_;clear S;intro h b S ak;simp only [ac]at S;simp only [BZ,seval];refine ab (bZ (by exact Tryz.t291.1) (by exact Tryz.e289E) (by decide) (by rfl)) S ?_;clear S;intro h bs S ad;simp only [LC,bJ,cd,ac,Xm,Xi,Xj,Xp,seval]at S;simp only [BZ,Xb,seval];have O: ∀i,i<5-> ∃g a c,[Value.func (.func 221) #[] #[.pointer (some ⟨b,0,none⟩)],.func (.func 223) #[] #[.pointer (some ⟨b,0,none⟩)],.func (.func 225) #[] #[.pointer (some ⟨b,0,none⟩)],.func (.func 227) #[] #[.pointer (some ⟨b,0,none⟩)],.func (.func 228) #[] #[.pointer (some ⟨b,0,none⟩)]][i]? =some (.func (.func g) a c)/\
  ∀h',Gr h h'->Ret zM g (a.toList++c.toList) h' fun v j=>Gr h' j/\qi h0.n h'.n v j:=by
  intro i hi;have r:=S.row (b:=b) m1;have q:=z.gr S.gr;have P: ∀h' v j,Gr h' j/\qi 0 h'.n v j->Gr h' j/\qi h0.n h'.n v j:=by rintro h' v j ⟨a,Q,a1,R,H,D,b1,b2,b3,A⟩;exact⟨a,Q,a1,R,H,D,b1,b2,b3,fun c s=>(A c s).elim (fun h=>by omega) .inr⟩
  match i,hi with
  |0,_=>exact⟨_,_,_,rfl,fun h' g=>uo (look1_ok g.ok k (r.gr g)) (P h')⟩
  |1,_=>exact⟨_,_,_,rfl,fun h' g=>uo (look2_ok g.ok k (q.gr g) (r.gr g)) (P h')⟩
  |2,_=>exact⟨_,_,_,rfl,fun h' g=>look3_ok g.ok k (q.gr g) (fun c s=>z.X.lt u s) (fun c s=>z.Y.lt u s) (r.gr g)⟩
  |3,_=>exact⟨_,_,_,rfl,fun h' g=>uo (look4_ok g.ok k (q.gr g) (r.gr g)) (P h')⟩
  |4,_=>exact⟨_,_,_,rfl,fun h' g=>look5_ok g.ok k (q.gr g) (fun c s=>z.A.lt u s) (r.gr g)⟩
 have Rs:=S.row (b:=bs) m0;have g0:=S.gr;have B:=S.ok;clear S z u;revert O Rs;generalize [Value.func (.func 221) #[] #[.pointer (some ⟨b,0,none⟩)],.func (.func 223) #[] #[.pointer (some ⟨b,0,none⟩)],.func (.func 225) #[] #[.pointer (some ⟨b,0,none⟩)],.func (.func 227) #[] #[.pointer (some ⟨b,0,none⟩)],.func (.func 228) #[] #[.pointer (some ⟨b,0,none⟩)]]=fs;intro O Rs;rename Hp=>C;have al:=Rs.lt B;have ax:=g0.n;have S:=Si B;refine sK (fun(i:Nat) I d h'=>i<=5/\ ∃f:List Nat,d=f.map sI/\St NoM C h' (dR f) []/\I 10=.slice (some ⟨bs,0,none⟩) 5 5/\I 11=.int .i64 5/\I 12=.int .i64 i) (fun i=>5-i) ?_ 0 _ _ _ ?_
 . clear S;intro i ih I d h ⟨hi,f,J,S,r10,r11,r12⟩;have w:am .i64 ((i:Int)+1)=((i+1:Nat):Int):=(by rw [wrap64]<;>omega);by_cases hlt:i<5
   . obtain⟨g,a,c,T,r⟩:=O i hlt;have Rl:=(Rs.gr S.gr).load1 T;have l:(i:Int)<5:=(by omega);simp only [BZ,r10,r11,r12,l,hlt,Rl,seval];refine ab au S ?_;clear S;intro h b2 S af;simp only [BZ,seval];refine az (aA S (i:=0) rfl ?_ ?_ ?_ ono) ?_
     . exact(by simp only [FA0])
     . exact(by exact aM)
     . exact Xc (lbt rfl)
     clear S;rintro h ⟨S,U⟩;clear U;simp only [LC,ac,lay,Xd,Xe,seval]at S;simp only [BZ,seval];replace S:=S.drop1;have kl: ∀b∈keys (dR f) [],b<h.n:=fun b m=>S.key_lt m;refine step_ret (r _ S.gr) ?_;intro v h ⟨g,Q,R,post,H,D,e,it,hps,hD⟩;replace S:=S.call g;subst e;simp only [BZ];refine gP S (g:=Q) (a:=R) (b:=post) (by simp [bw,aB]) rfl rfl ?_;intro K E G t ay aL g2;obtain⟨X,hX,t⟩: ∃X:fF,X=_/\St NoM C K ((G,.loop X)::(E,.dfr)::dR f) []:=⟨_,rfl,t⟩;have hJ:Yld zM G (fun _ h' F=>St NoM C h' ((G,.loop X)::(E,.dfr)::dR f) []/\F=keys ((G,.loop X)::(E,.dfr)::dR f) []) (fun _ _=>False) (H.map fun p=>[.agg ⟨mj p⟩]):=by
      refine⟨?_,?_,fun _ _ h=>h.elim,?_⟩
      . rintro i h F ⟨S,rfl⟩;exact⟨S.ok,fun b m=>S.key_lt m⟩
      . rintro i h F h' ⟨S,rfl⟩ g;exact⟨S.call g,rfl⟩
      . rintro i x h F hx ⟨S,rfl⟩;obtain⟨p,hp,rfl⟩: ∃p∈H,x=[.agg ⟨mj p⟩]:=(by rw [Xn,Option.map_eq_some_iff]at hx;obtain⟨p,C,K⟩:=hx;exact⟨p,Xl C,K.symm⟩);obtain⟨p1,p2⟩:=hps p hp;have V: ¬p.n<p.lo:=(by omega);have W: ¬p.hi<=p.n:=(by omega);subst hX;refine gK (S.get m0) (by rw [Tryz.e164];rfl) rfl ?_;have S0:=S;replace S:=S.base;simp only [BZ];refine ab au S ?_;clear S;intro h A S ai;simp only [BZ,mj,seval];refine az (stA S (i:=0) Tryz.t293.2.1) ?_;clear S;rintro h ⟨S,U⟩;clear U;simp only [LC,ac,lay,Xd,Xe,seval]at S;simp only [BZ];refine fG S (i:=1) rfl rfl rfl rfl rfl ?_;clear S;intro h S;simp only [BZ,V,W,S.ld (b:=A) (o:=3) m0 rfl,S.ld (b:=A) (o:=4) m0 rfl,S.ld (b:=A) (o:=5) m0 rfl,seval];refine dC S (i:=1) rfl ?_;clear S;intro h S;exact .inl ⟨rfl,_,⟨S0.rebase S.drop1,rfl⟩,S.fr,S.drop1.key_new⟩
     refine dh (Dh it hJ (h:=K) (F:=keys ((G,.loop _)::(E,.dfr)::dR f) []) g2.fr (fun b m hlt=>?_) ⟨t,rfl⟩) fun o rc h' y=>iJ y ?_
     . intro J;have M:=t.key_own m;rcases hD b J with hh|hh
       . rcases M with M|M
         . omega
         . exact M
       . rcases List.mem_cons.1 m with rfl|m
         . omega
         . rcases List.mem_cons.1 m with rfl|m
           . omega
           . have:=kl b m;omega
     . rintro F ⟨S,rfl⟩;subst hX;refine⟨_,S.get m0,Ys,?_⟩;replace S:=S.dead;show Run _ _ _ _ _ _ _ _;simp only [BZ,r12,w,seval];exact ih (i+1) _ _ _ (by omega) ⟨by omega,E::f,by rw [J];rfl,S,by simp [aB,r10,r11]⟩
   . have l: ¬(i:Int)<5:=(by omega);simp only [BZ,r11,r12,l,seval];subst J;refine bU (gm f h (L:=[]) (by rw [XG];exact S) fun h' t=>⟨rfl,_,rfl,g0.trans t.gr⟩)
 . exact⟨by omega,[],rfl,S,by simp [aB]⟩
theorem aw.form{d:Type}{enc:d->List Value}{v:Value}{xs:List d}(s:aw h k enc v xs): ∃a n c,v=.slice a n c:=by rcases s with⟨rfl,_⟩|⟨b,o,s,c,rfl,_⟩<;>exact⟨_,_,_,rfl⟩
section
variable{M:Nat->Prop}{h0 h:Hp}{E:Env}{L:List (Nat×Ob)}{G:List GL}
def WrK{a:Type}(h:Hp)(k:Nat)(enc:a->List Value)(w:Value)(l:List a):Prop:=l≠ []-> ∃b,w=.slice (some ⟨b,0,some k⟩) l.length l.length/\Row h b (l.flatMap enc) 1
theorem WrK.mo{a:Type}{enc:a->List Value}{l:List a}(r:WrK h k enc w l)(g:Mo M h h')(c: ∀b,ar w b-> ¬M b):WrK h' k enc w l:=
 fun d=>by obtain⟨b,e,k⟩:=r d;exact⟨b,e,g.has (o:=.row _ 1) k (c b (by rw [e];rfl))⟩
theorem St.cloneW{l:Type}{enc:l->List Value}{ys:List l}(S:St M h0 h L G){t g e:TypeId}{z:List Value}{x:Value}(m:E.und t=some (.slice e))(o:fV E e a k z)(p:0<a)(q:eS E g=some false)(r:aw h k enc x ys)(d: ∀x,(enc x).length=k)(s:0<k)(f:(ys.length*k)*(a+1)<=70368744177664){ts:List TypeId}(u:Row h b [] md):
 ∃h' v',dS E h (t::g::ts) (.slice (some ⟨b,0,none⟩) 0 0) x=some (h',v')/\St M h0 h' L G/\Gr h h'/\aw h' k enc v' ys/\(∀c,ar v' c->c=b\/h.n<=c)/\WrK h' k enc v' ys:=by
 obtain⟨h',v',v,A,B,C,D⟩:=S.cloneSl (enc:=enc) (xs:=[]) m o p q r d s (by simpa using f) (ts:=ts) (b:=b) (md:=md) (by simpa using u);refine⟨h',v',v,A,B,by simpa using C,D,fun i=>?_⟩;obtain⟨F,H,w,I⟩:=S.clone m o p q r.src (cB d ys).symm (n:=0) (by simp) s (by rw [cB d];simpa using f) (ts:=ts) u;have j:dS E h (t::g::ts) (.slice (some ⟨b,0,none⟩) 0 0) x=some (h',v'):=v;rw [j]at w;cases w;rcases I with⟨J,_⟩|⟨y,K,T⟩
 . exact absurd (List.length_eq_zero_iff.1 J) i
 . refine⟨y,by rw [K,Xi],?_⟩;have:=T.row (b:=y) m0;simpa using this
end
theorem check1_ok(a:OZ h0):eB zM 163 [ptrTo b] none h0 fun o rc h'=>(∃v,o=.ret v)/\rc=none/\Gr h0 h':=by have S:=Si a;refine enA (n:=17) (rs:=[]) Tryz.e163 ?_;simp only [BZ,seval];exact bU (cy ⟨rfl,_,rfl,⟨_,rfl⟩,rfl,S.gr⟩)
theorem check_ok(p:OZ h0){c:Gra}(d:mC c){j k:Value}(q:eg h0 f j k c):aQ zM 77 [ni c f j k] h0 .nilIface:=by
 have S:=Si p;refine erA (n:=6) (rs:=[.cell 2 75]) Tryz.e77 ?_;simp only [BZ,ni,seval];refine ab (aW (by intro x e;cases e)) S ?_;clear S;intro h b S r;simp only [ac]at S;simp only [BZ];refine ab au S ?_;clear S;intro h s S m;simp only [BZ,S.lds (b:=b) (o:=0) (n:=4) m1 (lbt rfl),seval];refine step_ret (look_ok S.ok d (q.gr S.gr)) ?_;intro v h g;replace S:=S.call g;simp only [BZ,seval];refine az (aA S (i:=0) rfl ?_ ?_ ?_ ono) ?_
 . exact(by simp only [FA0])
 . exact(by exact fl_nili)
 . exact Xc (lbt rfl)
 clear S;rintro h ⟨S,t⟩;clear t;simp only [LC,ac,lay,Xd,Xe,seval]at S;simp only [BZ];refine df (un_fn (dh (check1_ok S.ok) fun o u w ⟨a,b,g⟩=>⟨a,b,cy ⟨rfl,?_⟩⟩));replace S:=S.call g;have l:=S.ld (b:=s) (o:=0) m0 rfl;exact⟨_,wB (by decide) (by simp only [aD,ah,seval];exact iA Tryz.t75.1 l),rfl,S.gr⟩
theorem tN(f:OZ h0){v:Value}{xs:List Int}(i:aw h0 1 (encI .i64) v xs)(p:xs.length<1000000):Ret zM 153 [v] h0 fun r h'=>Gr h0 h'/\aw h' 1 (encI .i64) r xs/\ ∀c,ar r c->h0.n<=c:=by
 have S:=Si f;rcases i with⟨rfl,rfl⟩|⟨b,o,s,c,rfl,j,k⟩
 . refine erA (n:=8) (rs:=[.tmp 2]) Tryz.e153 ?_;simp only [BZ,aa,seval];exact⟨S.gr,.inl ⟨rfl,rfl⟩,fun c a=>a.elim⟩
 . refine erA (n:=8) (rs:=[.tmp 2]) Tryz.e153 ?_;simp only [BZ,seval];refine ab (bZ (by exact Tryz.t23.1) (by exact Tryz.e2E) (by decide) (by rfl)) S ?_;clear S;intro h q S d;simp only [LC,bJ,cd,ac,Xm,Xi,Xj,Xp,seval]at S;simp only [BZ,seval];refine dT (S.cloneSl (enc:=encI .i64) (xs:=[]) Tryz.t23.1 Tryz.e2E (by decide) Tryz.t23.2.2.2.2.2 (.inr ⟨b,o,s,c,rfl,j,S.old k (fun h=>h)⟩) (fun x=>rfl) (by decide) (by simp only [Ye,Xi];omega) (S.row m0)) ?_;rintro h' v ⟨l,g,m,a⟩;simp only [BZ,aa,seval];refine⟨l.gr,by simpa using m,fun c h=>(a c h).elim (fun e=>by omega) (fun e=>Xk S.fr.n e)⟩
theorem Ew(f:OZ h0){v:Value}{xs:List Arc}(i:aw h0 3 (cQ) v xs)(p:xs.length<1000000):Ret zM 154 [v] h0 fun r h'=>Gr h0 h'/\aw h' 3 (cQ) r xs/\(∀c,ar r c->h0.n<=c)/\WrK h' 3 cQ r xs:=by
 have S:=Si f;rcases i with⟨rfl,rfl⟩|⟨b,o,s,c,rfl,j,k⟩
 . refine erA (n:=8) (rs:=[.tmp 2]) Tryz.e154 ?_;simp only [BZ,aa,seval];exact⟨S.gr,.inl ⟨rfl,rfl⟩,fun c a=>a.elim,fun h=>absurd rfl h⟩
 . refine erA (n:=8) (rs:=[.tmp 2]) Tryz.e154 ?_;simp only [BZ,seval];refine ab (bZ (by exact Tryz.t55.1) (by exact Tryz.e135E) (by decide) (by rfl)) S ?_;clear S;intro h q S d;simp only [LC,bJ,cd,ac,Xm,Xi,Xj,Xp,seval]at S;simp only [BZ,seval];refine dT (S.cloneW (enc:=cQ) (ys:=xs) Tryz.t55.1 Tryz.e135E (by decide) Tryz.t55.2.2.2.2.2 (.inr ⟨b,o,s,c,rfl,j,S.old k (fun h=>h)⟩) (fun x=>rfl) (by decide) (by omega) (S.row m0)) ?_;rintro h' v ⟨l,g,m,a,w⟩;simp only [BZ,aa,seval];exact⟨l.gr,m,fun c h=>(a c h).elim (fun e=>by omega) (fun e=>Xk S.fr.n e),w⟩
structure DrAt(h:Hp)(bd:Nat)(vB:Value)(xs:List Int)(a:Nat):Prop where
 sl:aw h 1 (encI .u8) vB xs
 ne: ¬ar vB bd
 few:xs.length<1000000
 at_:a<100000
def drV(xs:List Int)(n a:Nat):Nat:=if h:xs.length=0 then 0 else(am .u8 (xs[a%xs.length]'(Nat.mod_lt _ (by omega))+am .u8 (am .i64 ((a:Int).tdiv (xs.length:Int))))%(n:Int)).toNat
theorem Dq(A:OZ h0){xs:List Int}(m:Row h0 d [f,.int .i64 a] 1)(B:DrAt h0 d f xs a)(J:1<=n)(C:n<1000):Ret zM 75 [ptrTo d,.int .i64 n] h0 fun v h'=>Mo (· =d) h0 h'/\ ∃r w:Nat,v=.int .i64 r/\r<n/\w<=a+1/\Row h' d [f,.int .i64 w] 1/\r=drV xs n a:=by
 have S:=St.init1 A (o:=.row [f,.int .i64 a] 1) m;obtain⟨p,t,K,L⟩:=B;have M:=p.fl;have D:am .i64 ((a:Int)+1)=((a+1:Nat):Int):=by rw [wrap64]<;>omega
 have E:am .i64 (((a+1:Nat):Int)-1)=(a:Int):=by rw [wrap64]<;>omega
 have F: ¬(n:Int)<1:=by omega
 by_cases g:xs.length=0
 . have s:(xs.length:Int)=0:=(by omega);refine erA (n:=55) (rs:=[.tmp 4]) Tryz.e75 ?_;simp only [BZ,aa,p.lenq,s,S.ld (b:=d) (o:=0) m0 rfl,seval];exact⟨S.fr,0,a,rfl,by omega,by omega,S.row m0,by unfold drV;rw [dif_pos g]⟩
 . have s: ¬(xs.length:Int)=0:=(by omega);have j:a%xs.length<xs.length:=Nat.mod_lt _ (by omega);have G:(a:Int).tmod (xs.length:Int)=((a%xs.length:Nat):Int):=(by rw [XX (by omega)];exact(Int.natCast_emod _ _).symm);refine erA (n:=55) (rs:=[.tmp 4]) Tryz.e75 ?_;simp only [BZ,p.lenq,s,F,D,S.ld (b:=d) (o:=0) m0 rfl,S.ld (b:=d) (o:=1) m0 rfl,seval];refine az (aA S (i:=0) rfl ?_ ?_ ?_ ono) ?_
   . exact(by simp only [FA0])
   . exact(by exact aM)
   . exact Xc (lbt rfl)
   clear S;rintro h ⟨S,H⟩;clear H;simp only [LC,ac,lay,Xd,Xe,seval]at S;have k:aw h 1 (encI .u8) f xs:=p.mo S.fr (fun b I e=>t (e▸I));obtain⟨c,o,l,u⟩:=k.ix (kd:=.i64) (bR _) j;have x:(xs.length:Int)≠0:=s;have y:(n:Int)≠0:=(by omega);simp only [BZ];refine ao (av rfl) (q:=0) (ps:=[]) (by kernel_rfl) ?_;simp only [BZ,jJ,cZ,jM,cls,aa,k.lenq,E,j8 x,mV x,j8 y,G,l,u,encI,S.ld (b:=d) (o:=0) m0 rfl,S.ld (b:=d) (o:=1) m0 rfl,seval];have m:(am .i64 (am .u8 (xs[a%xs.length]+am .u8 (am .i64 ((a:Int).tdiv (xs.length:Int)))))).tmod (n:Int)=((drV xs n a:Nat):Int)/\drV xs n a<n:=(by unfold drV;rw [dif_neg g];generalize xs[a%xs.length]+am .u8 (am .i64 ((a:Int).tdiv (xs.length:Int)))=z;have N:=wrap8 z;rw [wrap64 (by omega) (by omega),XX (by omega)];have O:=Int.emod_nonneg (am .u8 z) y;have P:=Int.emod_lt_of_pos (am .u8 z) (show(0:Int)<n by omega);exact⟨by omega,by omega⟩);rw [m.1];exact⟨S.fr,_,a+1,rfl,m.2,XD _,S.row m0,rfl⟩
theorem jw(h:OZ h0){d:Value}{xs:List Int}(i:Row h0 b [d,.int .i64 a] 1)(j:DrAt h0 b d xs a)(k:1<=n)(g:n<1000):Ret zM 75 [ptrTo b,.int .i64 n] h0 fun v h'=>Mo (· =b) h0 h'/\ ∃r c:Nat,v=.int .i64 r/\r<n/\c<=a+1/\Row h' b [d,.int .i64 c] 1:=
 (Dq h i j k g).mono fun v h' ⟨f,r,c,e,l,m,o,_⟩=>⟨f,r,c,e,l,m,o⟩
theorem DrAt.mo{h h':Hp}{c:Nat}{g:Value}{xs:List Int}{a i:Nat}(d:DrAt h c g xs a)(f:Mo (· =c) h h')(j:i<100000):DrAt h' c g xs i:=
 ⟨d.sl.mo f (fun b k e=>d.ne (e▸k)),d.ne,d.few,j⟩
theorem AO(x:OZ h0){xs:List Int}(y:Row h0 d [e,.int .i64 a] 1)(s:DrAt h0 d e xs a)(C:a+2<100000):Ret zM 76 [ptrTo d] h0 fun v h'=>Mo (· =d) h0 h'/\ ∃r t:Nat,v=.int .i64 r/\r<=2147483647/\t<=a+2/\Row h' d [e,.int .i64 t] 1:=by
 have S:=St.init1 x (o:=.row [e,.int .i64 a] 1) y;refine erA (n:=24) (rs:=[.tmp 2]) Tryz.e76 ?_;simp only [BZ,seval];refine step_ret (jw (n:=12) S.ok (S.row m0) s (by omega) (by omega)) ?_;rintro v h ⟨f,r,u,rfl,z,A,B⟩;replace S:=S.call1 (i:=0) rfl f (o':=.row _ _) B;have c:DrAt h d e xs u:=s.mo f (by omega);simp only [LC]at S;by_cases p:(r:Int)<3
 . simp only [BZ,aa,p,seval];exact⟨S.fr,0,u,rfl,by omega,by omega,S.row m0⟩
 . by_cases q:(r:Int)<10
   . simp only [BZ,p,q,seval];refine step_ret (jw (n:=9) S.ok (S.row m0) c (by omega) (by omega)) ?_;rintro v h ⟨f,b,g,rfl,j,k,l⟩;replace S:=S.call1 (i:=0) rfl f (o':=.row _ _) l;simp only [LC]at S;have m:am .i64 (1+(b:Int))=((1+b:Nat):Int):=(by rw [wrap64]<;>omega);simp only [BZ,aa,m,seval];exact⟨S.fr,1+b,g,rfl,by omega,by omega,S.row m0⟩
   . by_cases w:(r:Int)<11
     . simp only [BZ,p,q,w,seval];refine step_ret (jw (n:=20) S.ok (S.row m0) c (by omega) (by omega)) ?_;rintro v h ⟨f,b,g,rfl,j,k,l⟩;replace S:=S.call1 (i:=0) rfl f (o':=.row _ _) l;simp only [LC]at S;have m:am .i64 (100*(b:Int))=((100*b:Nat):Int):=(by rw [wrap64]<;>omega);simp only [BZ,aa,m,seval];exact⟨S.fr,100*b,g,rfl,by omega,by omega,S.row m0⟩
     . simp only [BZ,p,q,w,seval];refine step_ret (jw (n:=2) S.ok (S.row m0) c (by omega) (by omega)) ?_;rintro v h ⟨f,b,g,rfl,j,k,l⟩;replace S:=S.call1 (i:=0) rfl f (o':=.row _ _) l;simp only [LC]at S;have m:am .i64 (2147483647-(b:Int))=((2147483647-b:Nat):Int):=(by rw [wrap64]<;>omega);simp only [BZ,aa,m,seval];exact⟨S.fr,2147483647-b,g,rfl,by omega,by omega,S.row m0⟩
def ints(l:List Int):List Value:=l.flatMap (encI .i64)
theorem cC(l:List Int):(ints l).length=l.length:=by unfold ints;rw [cB (k:=1) (fun _=>rfl)];omega
theorem iO(l m:List Int):ints (l++m)=ints l++ints m:=by unfold ints;rw [Xx]
theorem raw0_ok(ok:OZ h0){y:Nat}{xs:List Int}(hr:Row h0 y [U,.int .i64 ((0:Nat):Int)] 1)(O:DrAt h0 y U xs 0):Ret zM 31 [ptrTo y] h0 fun v h'=>Mo (· =y) h0 h'/\ ∃γ vx vy va,v=ni γ vx vy va/\Good γ/\γ.nodes=1+drV xs 12 0/\eg h' vx vy va γ/\ ∀c,(ar vx c\/ar vy c\/ar va c)->h0.n<=c:=by
 have S:=St.init1 ok (o:=.row [U,.int .i64 ((0:Nat):Int)] 1) hr;have bE:=hr.lt ok;refine erA (n:=117) (rs:=[.cell 2 57]) Tryz.e31 ?_;simp only [BZ];refine ab au S ?_;clear S;intro h K S bv;simp only [BZ,seval];refine step_ret (Dq (n:=12) (a:=0) S.ok (S.row m1) (O.mo S.fr (by omega)) (by omega) (by omega)) ?_;rintro v h ⟨f,g,a0,rfl,bL,bP,R,bT⟩;replace S:=S.call1 (i:=1) rfl f (o':=.row _ _) R;simp only [LC]at S;have w1:am .i64 (1+(g:Int))=((1+g:Nat):Int):=by rw [wrap64]<;>omega
 simp only [BZ,w1,seval];refine ab au S ?_;clear S;intro h r S bx;simp only [BZ,seval];refine az (stA S (i:=0) Tryz.t7.2.1) ?_;clear S;rintro h ⟨S,L⟩;clear L;simp only [LC,ac,lay,Xd,Xe,seval]at S;simp only [BZ];replace S:=((S.nilG (k:=3)).nilG (k:=1)).nilG (k:=1);generalize hN:1+g=N at S;refine aX (fun(i:Nat) e h=>i<=N/\ ∃(a:Nat) (C F:Value) (X Y:List Int),a<=1+2*i/\X.length=i/\Y.length=i/\(∀x∈X,-2147483648<=x/\x<=2147483647)/\(∀x∈Y,-2147483648<=x/\x<=2147483647)/\
  St (· =y) h0 h [(r,.row [.int .i64 N,C,F,.slice none 0 0] 1),(K,.row [.int .i64 0,.slice none 0 0,.slice none 0 0,.slice none 0 0] 1),(y,.row [U,.int .i64 a] 1)] [(C,1,ints X),(F,1,ints Y),(.slice none 0 0,3,[])]/\
  e 0=ptrTo y/\e 2=ptrTo K/\e 3=ptrTo r/\e 4=.int .i64 i) (fun i=>N-i) ?_ 0 _ _ ?_
 . clear S;intro i Q e h ⟨hi,a,C,F,X,Y,ha,lX,lY,cX,cY,S,g,u,d,r4⟩;by_cases hlt:i<N
   . simp only [BZ,d,r4,aE,hlt,S.ld (b:=r) (o:=0) m0 rfl,seval];refine ao (av rfl) (q:=32) (ps:=[(1,3)]) (by kernel_rfl) ?_;simp only [BZ,cls,g,d,S.ld (b:=r) (o:=1) m0 rfl,seval];refine bO (jw (n:=9) (a:=a) S.ok (S.row m2) (O.mo S.fr (by omega)) (by omega) (by omega)) ?_;rintro v h ⟨f,r1,a1,rfl,b0,bh,R⟩;have hl:=S.leaves (c:=r) m0 f (by omega);replace S:=S.call1 (i:=2) rfl f (o':=.row _ _) R;simp only [LC]at S;have w9:am .i64 ((r1:Int)-3)=(r1:Int)-3:=(by rw [wrap64]<;>omega);simp only [BZ,cls,w9,seval];refine cV (bZ (by exact Tryz.t23.1) (by exact Tryz.e2E) (by decide) (by rfl)) S ?_;clear S;intro h V S I Z;simp only [LC,bJ,cd,ac,Xm,Xi,Xj,Xp,seval]at S;simp only [BZ,cls,seval];refine lu (S.grow (j:=0) (m:=1) (new:=ints [(r1:Int)-3]) rfl Tryz.t23.1 Tryz.e2E (by decide) Tryz.t23.2.2.2.2.2 (by simp only [aR];rw [S.lds (b:=V) (o:=0) (n:=1*1) m0 (lbt rfl)];rfl) rfl (by decide) rfl (by rw [cC,cC];simp;omega)) ?_;clear S;rintro h al S;simp only [LC]at S;replace S:=S.drop1;rw [<-iO]at S;have fX:Fl al:=(S.gown _ m0).1.fl;simp only [BZ,cls,d,seval];refine cJ (aA S (i:=0) rfl ?_ ?_ ?_ ono) ?_
     . exact(by simp only [FA0])
     . exact(by assumption)
     . exact Xc (lbt rfl)
     clear S;rintro h ⟨S,L⟩;clear L;simp only [LC,ac,lay,Xd,Xe,seval]at S;simp only [BZ,seval];refine⟨by simp only [aI,aO,aF,aK,aH,ne_eq,not_false_eq_true,aU,aY,aN,aJ,bw,bN,aD,XA,d,ah,an hl,seval],?_⟩;refine ao (av rfl) (q:=16) (ps:=[(1,3)]) (by kernel_rfl) ?_;simp only [BZ,cls,g,d,S.ld (b:=r) (o:=2) m0 rfl,seval];clear f hl R;refine bO (jw (n:=7) (a:=a1) S.ok (S.row m2) (O.mo S.fr (by omega)) (by omega) (by omega)) ?_;rintro v h ⟨f,G,a2,rfl,bi,bk,R⟩;have hl:=S.leaves (c:=r) m0 f (by omega);replace S:=S.call1 (i:=2) rfl f (o':=.row _ _) R;simp only [LC]at S;simp only [BZ,cls,seval];refine cV (bZ (by exact Tryz.t23.1) (by exact Tryz.e2E) (by decide) (by rfl)) S ?_;clear S;intro h V S I Z;simp only [LC,bJ,cd,ac,Xm,Xi,Xj,Xp,seval]at S;simp only [BZ,cls,seval];refine lu (S.grow (j:=1) (m:=1) (new:=ints [(G:Int)]) rfl Tryz.t23.1 Tryz.e2E (by decide) Tryz.t23.2.2.2.2.2 (by simp only [aR];rw [S.lds (b:=V) (o:=0) (n:=1*1) m0 (lbt rfl)];rfl) rfl (by decide) rfl (by rw [cC,cC];simp;omega)) ?_;clear S;rintro h ax S;simp only [LC]at S;replace S:=S.drop1;rw [<-iO]at S;have fY:Fl ax:=(S.gown _ m1).1.fl;simp only [BZ,cls,d,seval];refine cJ (aA S (i:=0) rfl ?_ ?_ ?_ ono) ?_
     . exact(by simp only [FA0])
     . exact(by assumption)
     . exact Xc (lbt rfl)
     clear S;rintro h ⟨S,L⟩;clear L;simp only [LC,ac,lay,Xd,Xe,seval]at S;simp only [BZ,r4,seval];refine⟨by simp only [aI,aO,aF,aK,aH,ne_eq,not_false_eq_true,aU,aY,aN,aJ,bw,bN,aD,XA,d,ah,an hl,seval],?_⟩;have w:am .i64 ((i:Int)+1)=((i+1:Nat):Int):=(by rw [wrap64]<;>omega);simp only [w];exact Q (i+1) _ _ (by omega) ⟨by omega,a2,al,ax,_,_,by omega,by simp [lX],by simp [lY],
      fun x D=>(List.mem_append.1 D).elim (cX x) (fun h=>by simp at h;omega),fun x D=>(List.mem_append.1 D).elim (cY x) (fun h=>by simp at h;omega),S,by simp [aB,g,ah,u,d]⟩
   . have bl : i=N:=(by omega);subst bl;simp only [BZ,g,d,r4,aE,hlt,S.ld (b:=r) (o:=0) m0 rfl,seval];refine step_ret (jw (n:=9) (a:=a) S.ok (S.row m2) (O.mo S.fr (by omega)) (by omega) (by omega)) ?_;rintro v h ⟨f,G,a1,rfl,bi,bh,R⟩;replace S:=S.call1 (i:=2) rfl f (o':=.row _ _) R;simp only [LC]at S;simp only [BZ,seval];refine uq (fun e h=> ∃(X Y:List Int),X.length=i/\Y.length=i/\(∀x∈X,-2147483648<=x/\x<=2147483647)/\(∀x∈Y,-2147483648<=x/\x<=2147483647)/\
      St (· =y) h0 h [(r,.row [.int .i64 i,C,F,.slice none 0 0] 1),(K,.row [.int .i64 0,.slice none 0 0,.slice none 0 0,.slice none 0 0] 1),(y,.row [U,.int .i64 a1] 1)] [(C,1,ints X),(F,1,ints Y),(.slice none 0 0,3,[])]/\
      e 0=ptrTo y/\e 2=ptrTo K/\e 3=ptrTo r) ?_ ?_ ?_
     . intro _;obtain⟨bX,ix,ay⟩:=S.gset (E:=zM) (t:=2) (j:=0) (i:=0) (kd:=.i64) rfl (by rw [cC];omega) Tryz.t2.2.2.1;have bm:nw (some 1) C (.int .i64 0)=_:=ix;simp only [BZ,d,bm,S.ld (b:=r) (o:=1) m0 rfl,seval];refine az (ay _ aM) ?_;clear S ay;intro h S;simp only [LC]at S;obtain⟨bY,iy,aL⟩:=S.gset (E:=zM) (t:=2) (j:=1) (i:=i-1) (kd:=.i64) rfl (by rw [cC];omega) Tryz.t2.2.2.1;have w1:am .i64 ((i:Int)-1)=((i-1:Nat):Int):=(by rw [wrap64]<;>omega);simp only [BZ,d,w1,iy,S.ld (b:=r) (o:=0) m0 rfl,S.ld (b:=r) (o:=2) m0 rfl,seval];refine az (aL _ aM) ?_;clear S aL;intro h S;simp only [LC]at S;simp only [BZ];have ad: ∀(l:List Int) (j:Nat) (z:Int),(ints l).set j (.int .i64 z)=ints (l.set j z):=by
        intro l
        induction l with
        |nil=>intro j z;rfl| cons x l Q=>
          intro j z;cases j with
          |zero=>rfl|succ j=>show _::_=_::_;exact congrArg _ (Q j z)
       rw [ad,ad]at S;refine dL ⟨_,_,by simp [lX],by simp [lY],fun x D=>?_,fun x D=>?_,S,by simp [aB,g,ah,u,d]⟩
       . rcases oD D with rfl|⟨j,_,D⟩
         . omega
         . exact cX x (Xl D)
       . rcases oD D with rfl|⟨j,_,D⟩
         . omega
         . exact cY x (Xl D)
     . intro _;simp only [BZ];exact dL ⟨X,Y,lX,lY,cX,cY,S,by simp [aB,g,ah,u,d]⟩
     . clear S g u d r4 lX lY cX cY X Y f R;rintro e h ⟨X,Y,lX,lY,cX,cY,S,g,u,d⟩;have w3:am .i64 (3*(i:Int))=((3*i:Nat):Int):=(by rw [wrap64]<;>omega);have w4:am .i64 (((3*i:Nat):Int)+1)=((3*i+1:Nat):Int):=(by rw [wrap64]<;>omega);simp only [BZ,g,d,w3,w4,S.ld (b:=r) (o:=0) m0 rfl,seval];refine step_ret (jw (n:=3*i+1) (a:=a1) S.ok (S.row m2) (O.mo S.fr (by omega)) (by omega) (by omega)) ?_;rintro v h ⟨f,B,a2,rfl,bn,bk,R⟩;replace S:=S.call1 (i:=2) rfl f (o':=.row _ _) R;simp only [LC]at S;simp only [BZ,g,seval];refine step_ret (jw (n:=3) (a:=a2) S.ok (S.row m2) (O.mo S.fr (by omega)) (by omega) (by omega)) ?_;rintro v h ⟨f,rr,a3,rfl,b1,b4,R⟩;replace S:=S.call1 (i:=2) rfl f (o':=.row _ _) R;simp only [LC]at S;simp only [BZ,seval];generalize decide ((0:Int)<(rr:Int))=ring;refine tW (fun e h=> ∃(a:Nat) (s:Value) (A:List Arc),a<=a3+2*i/\A.length<=i/\(∀x∈A,x.s<i/\x.t<i/\x.w<=2147483647)/\
        St (· =y) h0 h [(r,.row [.int .i64 i,C,F,s] 1),(K,.row [.int .i64 0,.slice none 0 0,.slice none 0 0,.slice none 0 0] 1),(y,.row [U,.int .i64 a] 1)] [(C,1,ints X),(F,1,ints Y),(s,3,A.flatMap cQ)]/\
        e 0=ptrTo y/\e 2=ptrTo K/\e 3=ptrTo r/\e 5=.int .i64 B)
        (fun(j:Nat) e h=>j<=i/\ ∃(a:Nat) (s:Value) (A:List Arc),a<=a3+2*j/\A.length<=j/\(∀x∈A,x.s<i/\x.t<i/\x.w<=2147483647)/\
        St (· =y) h0 h [(r,.row [.int .i64 i,C,F,s] 1),(K,.row [.int .i64 0,.slice none 0 0,.slice none 0 0,.slice none 0 0] 1),(y,.row [U,.int .i64 a] 1)] [(C,1,ints X),(F,1,ints Y),(s,3,A.flatMap cQ)]/\
        e 0=ptrTo y/\e 2=ptrTo K/\e 3=ptrTo r/\e 5=.int .i64 B/\e 6=.bool ring/\e 7=.int .i64 j) (fun j=>i-j) ?_ ?_ 0 ⟨by omega,a3,_,[],by omega,by simp,by simp,S,by simp [aB,g,ah,u,d]⟩
       . clear S g u d f R Q;intro j Q e h ⟨hj,a,s,A,ha,lA,M,S,g,u,d,G,r6,r7⟩;have J:(A.flatMap cQ).length=A.length*3:=cB jS A;by_cases hlt:j<i/\ring=true
         . obtain⟨hlt,H⟩:=hlt;subst H;have w1:am .i64 ((j:Int)+1)=((j+1:Nat):Int):=(by rw [wrap64]<;>omega);have ci:(i:Int)≠0:=(by omega);have tm:((j+1:Nat):Int).tmod (i:Int)=(((j+1)%i:Nat):Int):=(by rw [XX (by omega)];exact(Int.natCast_emod _ _).symm);simp only [BZ,d,r6,r7,aE,hlt,S.ld (b:=r) (o:=0) m0 rfl,seval];refine ao (av rfl) (q:=2048) (ps:=[(6,9),(1,9)]) (by kernel_rfl) ?_;simp only [BZ,cls,g,d,r7,w1,j8 ci,tm,S.ld (b:=r) (o:=0) m0 rfl,S.ld (b:=r) (o:=3) m0 rfl,seval];refine bO (AO (a:=a) S.ok (S.row m2) (O.mo S.fr (by omega)) (by omega)) ?_;rintro v h ⟨f,T,a4,rfl,W,bo,R⟩;have hl:=S.leaves (c:=r) m0 f (by omega);replace S:=S.call1 (i:=2) rfl f (o':=.row _ _) R;simp only [LC]at S;simp only [BZ,cls,seval];refine cV (bZ (by exact Tryz.t55.1) (by exact Tryz.e135E) (by decide) (by rfl)) S ?_;clear S;intro h V S I Z;simp only [LC,bJ,cd,ac,Xm,Xi,Xj,Xp,seval]at S;simp only [BZ,cls,seval];refine lu (S.grow (j:=2) (m:=1) (new:=cQ ⟨j,(j+1)%i,T⟩) rfl Tryz.t55.1 Tryz.e135E (by decide) Tryz.t55.2.2.2.2.2 (by simp only [aR];rw [S.lds (b:=V) (o:=0) (n:=1*3) m0 (lbt rfl)];rfl) rfl (by decide) rfl (by rw [J,jS];omega)) ?_;clear S;rintro h P S;simp only [LC]at S;replace S:=S.drop1;have fA:Fl P:=(S.gown _ m2).1.fl;simp only [BZ,cls,d,seval];refine cJ (aA S (i:=0) rfl ?_ ?_ ?_ ono) ?_
           . exact(by simp only [FA0])
           . exact(by assumption)
           . exact Xc (lbt rfl)
           clear S;rintro h ⟨S,L⟩;clear L;simp only [LC,ac,lay,Xd,Xe,seval]at S;simp only [BZ,r7,seval];refine⟨by simp only [aI,aO,aF,aK,aH,ne_eq,not_false_eq_true,aU,aY,aN,aJ,bw,bN,aD,XA,d,ah,an hl,seval],?_⟩;simp only [w1];have a8:(j+1)%i<i:=Nat.mod_lt _ (by omega);exact Q (j+1) _ _ (by omega) ⟨by omega,a4,P,A++[⟨j,(j+1)%i,T⟩],by omega,by simp;omega,
            fun x D=>(List.mem_append.1 D).elim (M x) (fun h=>by simp at h;subst h;exact⟨hlt,a8,W⟩),by rw [Xx];simpa using S,by simp [aB,g,ah,u,d,G,r6]⟩
         . by_cases af:j<i
           . have H:ring=false:=by cases ring with
              |false=>rfl|true=>exact absurd ⟨af,rfl⟩ hlt
             subst H;simp only [BZ,d,r6,r7,aE,af,S.ld (b:=r) (o:=0) m0 rfl,seval];exact dL ⟨a,s,A,by omega,by omega,M,S,by simp [aB,g,ah,u,d,G]⟩
           . simp only [BZ,d,r7,aE,af,S.ld (b:=r) (o:=0) m0 rfl,seval];exact dL ⟨a,s,A,by omega,by omega,M,S,by simp [aB,g,ah,u,d,G]⟩
       . clear S g u d f R Q;rintro e h ⟨a,s,A,ha,lA,M,S,g,u,d,G⟩;simp only [BZ];refine tW (fun e h=> ∃(a:Nat) (s:Value) (A:List Arc),A.length<=100/\(∀x∈A,x.s<i/\x.t<i/\x.w<=2147483647)/\
          St (· =y) h0 h [(r,.row [.int .i64 i,C,F,s] 1),(K,.row [.int .i64 0,.slice none 0 0,.slice none 0 0,.slice none 0 0] 1),(y,.row [U,.int .i64 a] 1)] [(C,1,ints X),(F,1,ints Y),(s,3,A.flatMap cQ)]/\
          e 0=ptrTo y/\e 2=ptrTo K/\e 3=ptrTo r)
          (fun(k:Nat) e h=>k<=B/\ ∃(a:Nat) (s:Value) (A:List Arc),a<=a3+2*i+6*k/\A.length<=i+2*k/\(∀x∈A,x.s<i/\x.t<i/\x.w<=2147483647)/\
          St (· =y) h0 h [(r,.row [.int .i64 i,C,F,s] 1),(K,.row [.int .i64 0,.slice none 0 0,.slice none 0 0,.slice none 0 0] 1),(y,.row [U,.int .i64 a] 1)] [(C,1,ints X),(F,1,ints Y),(s,3,A.flatMap cQ)]/\
          e 0=ptrTo y/\e 2=ptrTo K/\e 3=ptrTo r/\e 5=.int .i64 B/\e 8=.int .i64 k) (fun k=>B-k) ?_ ?_ 0 ⟨by omega,a,s,A,by omega,by omega,M,S,by simp [aB,g,ah,u,d,G]⟩
         . clear S g u d G ha lA M a s A;intro k Q e h ⟨hk,a,s,A,ha,lA,M,S,g,u,d,G,r8⟩;have J:(A.flatMap cQ).length=A.length*3:=cB jS A;by_cases hlt:k<B
           . simp only [BZ,G,r8,aE,hlt,seval];refine ao (jG (ord:=[11,0,1,2,3,4,5,6,7,8,9,10,12]) rfl rfl (by simp only [dW,ou,eX,Yp,Yq,List.map_toArray,XJ,Yk,cond_true,cond_false,seval];exact rfl)) (q:=1) (ps:=[(0,10),(0,8),(4,7),(0,4)]) (by kernel_rfl) ?_;simp only [BZ,cls,seval];refine cV au S ?_;clear S;intro h b9 S bB ba;simp only [BZ,cls,g,d,S.ld (b:=r) (o:=0) m1 rfl,seval];refine bO (jw (n:=i) (a:=a) S.ok (S.row m3) (O.mo S.fr (by omega)) (by omega) (by omega)) ?_;rintro v h ⟨f,s1,a4,rfl,bb,bo,R⟩;have bp:=S.leaves (c:=b9) m0 f (by omega);have bq:=S.leaves (c:=r) m1 f (by omega);replace S:=S.call1 (i:=3) rfl f (o':=.row _ _) R;simp only [LC]at S;simp only [BZ,cls,g,d,S.ld (b:=r) (o:=0) m1 rfl,seval];refine bO (jw (n:=i) (a:=a4) S.ok (S.row m3) (O.mo S.fr (by omega)) (by omega) (by omega)) ?_;rintro v h ⟨f,s2,a5,rfl,bc,b5,R⟩;have br:=S.leaves (c:=b9) m0 f (by omega);have bt:=S.leaves (c:=r) m1 f (by omega);replace S:=S.call1 (i:=3) rfl f (o':=.row _ _) R;simp only [LC]at S;simp only [BZ,cls,g,seval];refine bO (AO (a:=a5) S.ok (S.row m3) (O.mo S.fr (by omega)) (by omega)) ?_;rintro v h ⟨f,T,a6,rfl,W,b6,R⟩;have bu:=S.leaves (c:=b9) m0 f (by omega);replace S:=S.call1 (i:=3) rfl f (o':=.row _ _) R;simp only [LC]at S;simp only [BZ,cls,seval];refine cJ (stA S (i:=0) Tryz.t135.2.1) ?_;clear S;rintro h ⟨S,L⟩;clear L;simp only [LC,ac,lay,Xd,Xe,seval]at S;simp only [BZ,d,seval];refine⟨by simp only [aI,aO,aF,aK,aH,ne_eq,not_false_eq_true,aU,aY,aN,aJ,bw,bN,aD,XA,d,ah,<-ba,an bp,an br,an bt,an bu,aq bq,seval],?_⟩;simp only [BZ,S.ld (b:=r) (o:=3) m1 rfl,S.lds (b:=b9) (o:=0) (n:=3) m0 (lbt rfl),seval];refine ab (bZ (by exact Tryz.t55.1) (by exact Tryz.e135E) (by decide) (by rfl)) S ?_;clear S;intro h V S I;simp only [LC,bJ,cd,ac,Xm,Xi,Xj,Xp,seval]at S;simp only [BZ,seval];refine dT (S.grow (j:=2) (m:=1) (new:=cQ ⟨s1,s2,T⟩) rfl Tryz.t55.1 Tryz.e135E (by decide) Tryz.t55.2.2.2.2.2 (by simp only [aR];rw [S.lds (b:=V) (o:=0) (n:=1*3) m0 (lbt rfl)];rfl) rfl (by decide) rfl (by rw [J,jS];omega)) ?_;clear S;rintro h P S;simp only [LC]at S;replace S:=S.drop1;have fA:Fl P:=(S.gown _ m2).1.fl;simp only [BZ,d,seval];refine az (aA S (i:=1) rfl ?_ ?_ ?_ ono) ?_
             . exact(by simp only [FA0])
             . exact(by assumption)
             . exact Xc (lbt rfl)
             clear S;rintro h ⟨S,L⟩;clear L;simp only [LC,ac,lay,Xd,Xe,seval]at S;simp only [BZ,g,seval];refine step_ret (jw (n:=4) (a:=a6) S.ok (S.row m3) (O.mo S.fr (by omega)) (by omega) (by omega)) ?_;rintro v h ⟨f,r9,a7,rfl,b7,b8,R⟩;replace S:=S.call1 (i:=3) rfl f (o':=.row _ _) R;simp only [LC]at S;have w8:am .i64 ((k:Int)+1)=((k+1:Nat):Int):=(by rw [wrap64]<;>omega);have ai:(A.flatMap cQ++cQ ⟨s1,s2,T⟩).length=A.length*3+3:=(by rw [Xu,J,jS]);have be: ∀x∈A++[(⟨s1,s2,T⟩:Arc)],x.s<i/\x.t<i/\x.w<=2147483647:=fun x D=>(List.mem_append.1 D).elim (M x) (fun h=>by simp at h;subst h;exact⟨bb,bc,W⟩);by_cases hz:(r9:Int)=0
             . simp only [BZ,d,hz,S.ld (b:=r) (o:=3) m1 rfl,S.ld (b:=b9) (o:=0) m0 rfl,S.ld (b:=b9) (o:=1) m0 rfl,S.ld (b:=b9) (o:=2) m0 rfl,seval];refine ab (bZ (by exact Tryz.t55.1) (by exact Tryz.e135E) (by decide) (by rfl)) S ?_;clear S;intro h V S I;simp only [LC,bJ,cd,ac,Xm,Xi,Xj,Xp,seval]at S;simp only [BZ,seval];refine dT (S.grow (j:=2) (m:=1) (new:=cQ ⟨s2,s1,T⟩) rfl Tryz.t55.1 Tryz.e135E (by decide) Tryz.t55.2.2.2.2.2 (by simp only [aR];rw [S.lds (b:=V) (o:=0) (n:=1*3) m0 (lbt rfl)];rfl) rfl (by decide) rfl (by rw [ai,jS];omega)) ?_;clear S;rintro h bf S;simp only [LC]at S;replace S:=S.drop1;have fA:Fl bf:=(S.gown _ m2).1.fl;simp only [BZ,d,seval];refine az (aA S (i:=1) rfl ?_ ?_ ?_ ono) ?_
               . exact(by simp only [FA0])
               . exact(by assumption)
               . exact Xc (lbt rfl)
               clear S;rintro h ⟨S,L⟩;clear L;simp only [LC,ac,lay,Xd,Xe,seval]at S;simp only [BZ,r8,w8,seval];replace S:=S.drop1;exact Q (k+1) _ _ (by omega) ⟨by omega,a7,bf,A++[⟨s1,s2,T⟩]++[⟨s2,s1,T⟩],by omega,by simp;omega,
                fun x D=>(List.mem_append.1 D).elim (be x) (fun h=>by simp at h;subst h;exact⟨bc,bb,W⟩),by rw [Xx,Xx];simpa using S,by simp [aB,g,ah,u,d,G]⟩
             . simp only [BZ,r8,hz,w8,seval];replace S:=S.drop1;exact Q (k+1) _ _ (by omega) ⟨by omega,a7,P,A++[⟨s1,s2,T⟩],by omega,by simp;omega,
                be,by rw [Xx];simpa using S,by simp [aB,g,ah,u,d,G]⟩
           . simp only [BZ,G,r8,aE,hlt,seval];exact dL ⟨a,s,A,by omega,M,S,by simp [aB,g,ah,u,d]⟩
         . clear S g u d G ha lA M a s A;rintro e h ⟨a,s,A,lA,M,S,g,u,d⟩;simp only [BZ,u,d,S.lds (b:=r) (o:=0) (n:=4) m0 (lbt rfl),seval];have fX:Fl C:=(S.gown _ m0).1.fl;have fY:Fl F:=(S.gown _ m1).1.fl;have fA:Fl s:=(S.gown _ m2).1.fl;refine az (stA S (i:=1) Tryz.t57.2.1 (by simp only [ac,Xd,Xe,List.all_cons,List.all_nil,fX.2.1,fY.2.1,fA.2.1,XA];rfl)) ?_;clear S;rintro h ⟨S,_⟩;simp only [LC,ac,lay,Xd,Xe,seval]at S;simp only [BZ,aa];refine⟨_,wB (by decide) (by simp only [aD,u,ah,seval];exact bI Tryz.t57.1 Tryz.t57.2.1 (S.lds (b:=K) (o:=0) (n:=4) m1 (lbt rfl))),?_⟩;have ak: ∀p∈[(C,1,ints X),(F,1,ints Y),(s,3,A.flatMap cQ)],∀c,ar p.1 c->h0.n<=c:=by
            intro p hp c hc;obtain⟨h1,h2⟩:=S.gblk hp hc;rcases h1 with h1|h1
            . exact h1
            . exact absurd (by simp [h1]) h2
           refine⟨S.fr,⟨i,X,Y,A⟩,C,F,s,rfl,⟨show 1<=i by omega,show i<=12 by omega,lX,lY,cX,cY,lA,M⟩,show i=_ by omega,⟨(S.gown _ m0).1.sl rfl (fun _=>rfl) (by decide),(S.gown _ m1).1.sl rfl (fun _=>rfl) (by decide),(S.gown _ m2).1.sl rfl (fun _=>rfl) (by decide)⟩,?_⟩;rintro c (hc|hc|hc)
           . exact ak _ m0 c hc
           . exact ak _ m1 c hc
           . exact ak _ m2 c hc
 . exact⟨by omega,a0,_,_,[],[],by omega,rfl,rfl,by simp,by simp,S,by simp [aB,cL,ah]⟩
theorem raw_ok(l:OZ h0){k:Value}{xs:List Int}(m:Row h0 j [k,.int .i64 ((0:Nat):Int)] 1)(n:DrAt h0 j k xs 0):Ret zM 31 [ptrTo j] h0 fun v h'=>Mo (· =j) h0 h'/\ ∃e g h i,v=ni e g h i/\Good e/\eg h' g h i e/\ ∀c,(ar g c\/ar h c\/ar i c)->h0.n<=c:=
 (raw0_ok l m n).mono fun v h' ⟨f,e,g,h,i,a,b,_,c,d⟩=>⟨f,e,g,h,i,a,b,c,d⟩
theorem ag(g:Gr h h')(a:b<h.n):leaves h h' b=true:=qf (g.get b a)
theorem own_ok(R:OZ h0){u:Gra}(k:mC u){l:Value}(F:eg h0 p r l u):Ret zM 63 [ni u p r l] h0 fun v h'=>Gr h0 h'/\ ∃p r l,v=ni u p r l/\eg h' p r l u/\(∀c,ar p c\/ar r c\/ar l c->h0.n<=c)/\WrK h' 3 cQ l u.arcs/\ ∀c,ar l c-> ¬ar p c/\ ¬ar r c:=by
 have S:=Si R;have lX:=k.lX;have lY:=k.lY;have n2:=k.n2;have M:=k.many;refine erA (n:=16) (rs:=[.cell 2 57]) Tryz.e63 ?_;simp only [BZ,ni,seval];refine ab (aW (by intro x e;cases e)) S ?_;clear S;intro h b S T;simp only [ac]at S;simp only [BZ];refine ab au S ?_;clear S;intro h s S N;simp only [BZ];refine ao (av rfl) (q:=0) (ps:=[(5,7),(2,7),(2,4)]) (by kernel_rfl) ?_;simp only [BZ,cls,S.ld (b:=b) (o:=1) m1 rfl,seval];refine bO (tN S.ok (F.X.gr S.gr) (by omega)) ?_;have U:=S.fr.n;rintro y h ⟨g,f,G⟩;have O:=ag g ((S.row (b:=b) m1).lt S.ok);have H: ∀c,ar y c-> ¬c=b:=fun c d e=>by have:=G c d;have:=(S.row (b:=b) m1).lt S.ok;omega
 have I: ∀c,ar y c-> ¬c=s:=fun c d e=>by have:=G c d;have:=(S.row (b:=s) m0).lt S.ok;omega
 replace S:=S.call g;simp only [BZ,cls,S.ld (b:=b) (o:=2) m1 rfl,seval];refine bO (tN S.ok (F.Y.gr S.gr) (by omega)) ?_;have V:=S.fr.n;rintro A h ⟨g,j,J⟩;have P:=ag g ((S.row (b:=b) m1).lt S.ok);have K: ∀c,ar A c-> ¬c=b:=fun c d e=>by have:=J c d;have:=(S.row (b:=b) m1).lt S.ok;omega
 have L: ∀c,ar A c-> ¬c=s:=fun c d e=>by have:=J c d;have:=(S.row (b:=s) m0).lt S.ok;omega
 replace S:=S.call g;replace f:=f.gr g;simp only [BZ,cls,S.ld (b:=b) (o:=3) m1 rfl,seval];refine bO (Ew S.ok (F.A.gr S.gr) (by omega)) ?_;have W:=S.fr.n;rintro B h ⟨g,m,C,t⟩;have X: ∀c,ar B c-> ¬ar y c/\ ¬ar A c:=fun c d=>⟨fun h=>by have:=C c d;have:=f.lt S.ok h;omega,fun h=>by have:=C c d;have:=j.lt S.ok h;omega⟩;have Q:=ag g ((S.row (b:=b) m1).lt S.ok);have w: ∀c,ar B c-> ¬c=b:=fun c d e=>by have:=C c d;have:=(S.row (b:=b) m1).lt S.ok;omega
 have D: ∀c,ar B c-> ¬c=s:=fun c d e=>by have:=C c d;have:=(S.row (b:=s) m0).lt S.ok;omega
 replace S:=S.call g;replace f:=f.gr g;replace j:=j.gr g;have z: ∀c,ar y c\/ar A c\/ar B c->h0.n<=c:=fun c d=>by
  rcases d with h|h|h
  . exact Xk U (G c h)
  . exact Xk V (J c h)
  . exact Xk W (C c h)
 have Y:=f.fl;have Z:=j.fl;have f3:=m.fl;simp only [BZ,cls,seval];refine cJ (aA S (i:=1) rfl ?_ ?_ ?_ ono) ?_
 . exact(by simp only [FA0])
 . exact(by assumption)
 . exact Xc (lbt rfl)
 clear S;rintro h ⟨S,a⟩;replace f:=f.mo a H;replace j:=j.mo a K;replace m:=m.mo a w;replace t:=t.mo a w;clear a;simp only [LC,ac,lay,Xd,Xe,seval]at S;simp only [BZ,cls,seval];refine cJ (aA S (i:=1) rfl ?_ ?_ ?_ ono) ?_
 . exact(by simp only [FA0])
 . exact(by assumption)
 . exact Xc (lbt rfl)
 clear S;rintro h ⟨S,a⟩;replace f:=f.mo a H;replace j:=j.mo a K;replace m:=m.mo a w;replace t:=t.mo a w;clear a;simp only [LC,ac,lay,Xd,Xe,seval]at S;simp only [BZ,cls,seval];refine cJ (aA S (i:=1) rfl ?_ ?_ ?_ ono) ?_
 . exact(by simp only [FA0])
 . exact(by assumption)
 . exact Xc (lbt rfl)
 clear S;rintro h ⟨S,a⟩;replace f:=f.mo a H;replace j:=j.mo a K;replace m:=m.mo a w;replace t:=t.mo a w;clear a;simp only [LC,ac,lay,Xd,Xe,seval]at S;simp only [BZ,seval];refine⟨by simp only [aI,aO,aF,aK,aH,ne_eq,not_false_eq_true,aU,aY,aN,aJ,bw,bN,aD,XA,cK,ah,an O,an P,an Q,aq O,aq P,aq Q,seval],?_⟩;simp only [BZ,S.lds (b:=b) (o:=0) (n:=4) m1 (lbt rfl),seval];refine az (stA S (i:=0) Tryz.t57.2.1 (by simp only [ac,Xd,Xe,List.all_cons,List.all_nil,Y.2.1,Z.2.1,f3.2.1,XA];rfl)) ?_;clear S;rintro h' ⟨S,E⟩;simp only [LC,ac,lay,Xd,Xe,seval]at S;simp only [BZ,aa];refine⟨_,wB (by decide) (by simp only [aD,ah,seval];exact bI Tryz.t57.1 Tryz.t57.2.1 (S.lds (b:=s) (o:=0) (n:=4) m0 (lbt rfl))),?_⟩;exact⟨S.gr,y,A,B,rfl,⟨f.mo E I,j.mo E L,m.mo E D⟩,z,t.mo E D,X⟩
section
variable(A:List Arc)(f:Arc->Nat)
def outs(j v:Nat):List Nat:=(Xa j).filter fun i=>decide (f (A.getD i default)=v)
def start:Nat->Nat
 |0=>0|v+1=>start v+(outs A f A.length v).length
theorem jF(j v:Nat):outs A f (j+1) v=outs A f j v++(if f (A.getD j default)=v then [j]else []):=by simp_all[outs,Yd,List.filter_append,default,List.filter_cons,List.filter_nil,decide_true,if_true]
theorem outs_pre(h:j<=k)(v:Nat): ∃l,outs A f k v=outs A f j v++l:=by
 induction k with
 |zero=>simp_all| succ k a=>
   by_cases b:j=k+1
   . simp_all
   grind[jF,List.append_assoc]
theorem Ap(h:j<=k)(v:Nat):(outs A f j v).length<=(outs A f k v).length:=by obtain⟨l,a⟩:=outs_pre A f h v;grind
theorem start_eq(v:Nat):start A f v=((Xa A.length).filter fun i=>decide (f (A.getD i default)<v)).length:=by
 have a: ∀(l:List Nat) (v:Nat),(l.filter fun i=>decide (f (A.getD i default)<v+1)).length=(l.filter fun i=>decide (f (A.getD i default)<v)).length+(l.filter fun i=>decide (f (A.getD i default)=v)).length:=by
  intro l v
  induction l with
  |nil=>rfl| cons x l b=>grind
 induction v with
 |zero=>rw [start];symm;simp_all|succ v b=>rw [start,b,a];rfl
theorem sk(v:Nat):start A f v+(outs A f A.length v).length<=A.length:=by have:=start_eq A f (v+1);grind[start,Xk,Yv]
theorem zR(h:u<v):start A f u+(outs A f A.length u).length<=start A f v:=by
 induction v with
 |zero=>omega| succ v a=>rw [start];grind
theorem DO{r:Nat}(b:r<(outs A f A.length u).length)(c:s<(outs A f A.length v).length)(h:start A f u+r=start A f v+s):u=v/\r=s:=by
 rcases Nat.lt_trichotomy u v with a|a|a
 . have:=zR A f a;omega
 . grind
 . have:=zR A f a;omega
end
def bM(x:Nat):List Value:=[.int .i64 x]
theorem dr(x:Nat):(bM x).length=1:=rfl
def iU(h:Hp)(m:Nat)(v:Value)(N:Nat)(R:Nat->List Nat):Prop:=
 ∃a b,v=.slice (some ⟨a,0,none⟩) N N/\m<=a/\Row h a b 1/\b.length=N/\ ∀i,i<N-> ∃w,b[i]? =some w/\aw h 1 bM w (R i)/\ ∀c,ar w c->m<=c
theorem iU.mo{M:Nat->Prop}{h h':Hp}{v:Value}{m N:Nat}{R:Nat->List Nat}(r:iU h m v N R)(g:Mo M h h')(q: ∀b,M b->b<m):iU h' m v N R:=by obtain⟨e,d,f,s,j,k,l⟩:=r;refine⟨e,d,f,by omega,g.has (o:=.row d 1) j (fun h=>by grind),k,fun i n=>?_⟩;obtain⟨w,a,b,c⟩:=l i n;exact⟨w,a,b.mo g fun x p t=>by grind,fun x p=>by grind⟩
theorem iU.gr{v:Value}(g:Gr h h')(r:iU h m v N R):iU h' m v N R:=
 r.mo (M:=NoM) g.fr (fun _ h=>h.elim)
theorem iU.low{v:Value}(r:iU h m v N R)(g:a<=m):iU h a v N R:=by
 obtain⟨b,c,d,j,e,f,k⟩:=r;exact⟨b,c,d,by omega,e,f,fun i l=>by
  grind⟩
structure aP(h:Hp)(m:Nat)(p:Value)(γ:Gra):Prop where
 ex: ∃b vx vy va vo vi,p=ptrTo b/\Row h b [.int .i64 γ.nodes,vx,vy,va,vo,vi] 1/\eg h vx vy va γ/\iU h m vo γ.nodes (outs γ.arcs Arc.s γ.arcs.length)/\iU h m vi γ.nodes (outs γ.arcs Arc.t γ.arcs.length)/\m<=b/\ ∀c,ar vx c\/ar vy c\/ar va c->m<=c
theorem eg.mo{M:Nat->Prop}{h h':Hp}{b d e:Value}{i:Gra}(a:eg h b d e i)(g:Mo M h h')(f: ∀c,ar b c\/ar d c\/ar e c-> ¬M c):eg h' b d e i:=
 ⟨a.X.mo g fun c h=>f c (.inl h),a.Y.mo g fun c h=>f c (.inr (.inl h)),a.A.mo g fun c h=>f c (.inr (.inr h))⟩
theorem aP.mo{M:Nat->Prop}{h h':Hp}{m:Nat}{p:Value}{a:Gra}(n:aP h m p a)(g:Mo M h h')(d: ∀b,M b->b<m):aP h' m p a:=by obtain⟨b,e,f,i,j,k,l,q,r,s,t,u,v⟩:=n.ex;exact⟨b,e,f,i,j,k,l,g.has (o:=.row _ 1) q (fun h=>by grind),r.mo g (fun c w x=>by grind),s.mo g d,t.mo g d,u,v⟩
theorem aP.gr{a:Gra}(n:aP h m p a)(g:Gr h h'):aP h' m p a:=n.mo (M:=NoM) g.fr (fun _ h=>h.elim)
theorem kW{a:Type}{F F':Nat->a}(b: ∀i,i<N->i≠k->F' i=F i):((Xa N).map F).set k (F' k)=(Xa N).map F':=by refine Xt fun i=>?_;grind
theorem lH{a:Type}{F:Nat->a}(b:k<N):((Xa N).map F)[k]? =some (F k):=by simp [b]
theorem slice_at{t e:TypeId}{len l:Nat}{a c d:IntKind}(i:E.und t=some (.slice e))(j:E.sz e=some k)(f:l<=m)(o:m<=cap):iq E t (.slice (some ⟨b,0,none⟩) len cap) (some (.int a (l:Int))) (some (.int c (l:Int))) (some (.int d (m:Int)))=some (.slice (some ⟨b,if m=l then 0 else l*k,none⟩) 0 (m-l)):=by
 have g: ∀n:Nat,jt (n:Int)=some n:=fun n=>rfl;simp only [iq,i,ie,gY,g,Xo o,Xo f,Xo (XD l),cond_true,j,Yf,Option.map];by_cases h:m=l
 . subst h;rw [Yl];simp
 . have:X7 m l=false:=by
    cases p:X7 m l with
    |false=>rfl|true=>exact absurd (Ya p) h
   rw [this,if_neg h];simp [iu]
theorem St.fill(S:St M h0 h L G){t k e:TypeId}{len:Nat}{q l:List Value}{s:Option Nat}{x v:Value}(m:L[i]? =some (b,.row l md))(r:E.und t=some (.slice e))(u:fV E e d 1 q)(w:eS E k=some false)(a:aR h 1 x=some (1,[v]))(z:Fl v)(F:len<cap)(A:off+len<l.length)(f:md≠0){ts:List TypeId}:
 ∃h',dS E h (t::k::ts) (.slice (some ⟨b,off,s⟩) len cap) x=some (h',.slice (some ⟨b,off,s⟩) (len+1) cap)/\St M h0 h' (L.set i (b,.row (l.set (off+len) v) md)) G/\Mo (· =b) h h':=by
 obtain⟨⟨H,g,rfl,c⟩,I,B⟩:=u;have C:=S.row (Xl m);obtain⟨y,D,n⟩:=C.store S.ok f (o:=off+len) (vs:=[v]) (by simp;omega) (by simp [z.2.1]);have e:lay l (off+len) [v]=l.set (off+len) v:=by
  refine Xt fun j=>?_;rw [lS (by simp;omega),XU];simp only [Ym,Ye];by_cases p:off+len=j
  . subst p;rw [if_pos ⟨XD _,by omega⟩,if_pos rfl,if_pos A];simp
  . rw [if_neg (by omega),if_neg p]
 rw [e]at n;refine⟨h.put b y,?_,S.put m n,(Mo.refl (M:=(· =b)) S.ok).put (.inr rfl) y⟩;simp only [dS,w,lZ,r,g,c,a];unfold ig;rw [Xo (by omega:len+1<=cap)];simp only [cond_true,c,Xj,D]
theorem AV{f:Operand}{xs:Array Operand}{ts:Array TypeId}:cH ρ true (.call ⟨.value f,xs,ts⟩) h h'=none:=rfl
theorem jC:cP i []=none:=rfl
theorem pair_n{x:Option Tch}:iS none x=true:=rfl
def KeyF(E:Env)(g:FuncId)(f:Arc->Nat):Prop:= ∀(h:Hp) (a:Arc),OZ h->aQ E g [.agg ⟨cQ a⟩] h (.int .i64 (f a))
theorem of2_key:KeyF zM 167 Arc.s:=by intro f a c;have S:=Si c;refine erA (n:=5) (rs:=[.tmp 2]) Tryz.e167 ?_;simp only [BZ,cQ,seval];refine ab (aW (by intro x e;cases e)) S ?_;clear S;intro h b S d;simp only [ac]at S;simp only [BZ,aa,S.ld (b:=b) (o:=0) m0 rfl,seval];exact S.gr
theorem of3_key:KeyF zM 168 Arc.t:=by intro f a c;have S:=Si c;refine erA (n:=5) (rs:=[.tmp 2]) Tryz.e168 ?_;simp only [BZ,cQ,seval];refine ab (aW (by intro x e;cases e)) S ?_;clear S;intro h b S d;simp only [ac]at S;simp only [BZ,aa,S.ld (b:=b) (o:=1) m0 rfl,seval];exact S.gr
theorem jQ(A:List Arc)(f:Arc->Nat)(j v:Nat):(outs A f j v).length<=j:=by unfold outs;exact Xk (Yv _ _) (by simp)
theorem tB(z:Value)(N:Nat):bJ [z] ((N:Int)).toNat=(Xa N).map fun _=>z:=by
 rw [XF];have: ∀n,bJ [z] n=Xh n z:=by
  intro n
  induction n with
  |zero=>rfl|succ n a=>simp [bJ,a,YB]
 rw [this,XZ,List.length_range]
def pP(A:List Arc)(f:Arc->Nat)(i v:Nat):Value:=.int .i64 ((outs A f i v).length:Nat)
def jn(A:List Arc)(f:Arc->Nat)(b v n:Nat):Value:=.slice (some ⟨b,if(outs A f A.length v).length=0 then 0 else start A f v,none⟩) n (outs A f A.length v).length
theorem cnt_set{A:List Arc}{f:Arc->Nat}(c:i<A.length):((Xa N).map (pP A f i)).set (f A[i]) (.int .i64 (((outs A f i (f A[i])).length+1:Nat):Int))=(Xa N).map (pP A f (i+1)):=by
 have b:A.getD i default=A[i]:=by simp [zO,c]
 have e:(.int .i64 (((outs A f i (f A[i])).length+1:Nat):Int):Value)=pP A f (i+1) (f A[i]):=by unfold pP;rw [jF,b,if_pos rfl,Xu];rfl
 rw [e];refine kW fun v d a=>?_;unfold pP;rw [jF,b,if_neg (fun e=>a e.symm),XG]
def zP(A:List Arc)(f:Arc->Nat)(N i:Nat)(cs:List Value):Prop:=
 cs.length=A.length/\ ∀v r x,v<N->(outs A f i v)[r]? =some x->cs[start A f v+r]? =some (.int .i64 (x:Nat))
theorem fill_zero{A:List Arc}{f:Arc->Nat}:zP A f N 0 ((Xa A.length).map fun _=>.int .i64 0):=
 ⟨by simp,fun v r x _ h=>by simp [outs]at h⟩
theorem fill_step{A:List Arc}{f:Arc->Nat}(h:zP A f N i cs)(k:i<A.length):zP A f N (i+1) (cs.set (start A f (f A[i])+(outs A f i (f A[i])).length) (.int .i64 (i:Nat))):=by
 have c:A.getD i default=A[i]:=by simp [zO,k]
 have g:(outs A f (i+1) (f A[i])).length<=(outs A f A.length (f A[i])).length:=Ap A f (by omega) _;rw [jF,c,if_pos rfl,Xu]at g;have hlt:(outs A f i (f A[i])).length<(outs A f A.length (f A[i])).length:=by simp at g;omega
 have l:=sk A f (f A[i]);refine⟨by rw [Xs];exact h.1,fun v r x m a=>?_⟩;have n:r<(outs A f (i+1) v).length:=(List.getElem?_eq_some_iff.1 a).1;have d:r<(outs A f A.length v).length:=XT n (Ap A f (by omega) v);rw [XU];by_cases e:start A f (f A[i])+(outs A f i (f A[i])).length=start A f v+r
 . obtain⟨b,o⟩:=DO A f hlt d e;subst b;rw [if_pos e,if_pos (by rw [h.1];omega)];rw [jF,c,if_pos rfl,XW,if_neg (by omega),o,Yf]at a;simp at a;rw [a]
 . rw [if_neg e];refine h.2 v r x m ?_;rw [jF,c]at a;by_cases b:f A[i]=v
   . rw [if_pos b,XW]at a;subst b;by_cases j:r<(outs A f i (f A[i])).length
     . rw [if_pos j]at a;exact a
     . rw [if_neg j]at a;have:=(List.getElem?_eq_some_iff.1 a).1;simp at this;exact absurd (by omega) e
   . rw [if_neg b,XG]at a;exact a
theorem of1_ok(ok:OZ h0){u:Gra}(J:mC u){vx vy K:Value}(hb:Row h0 b [.int .i64 u.nodes,vx,vy,K] 1)(ga:eg h0 vx vy K u){g:FuncId}{f:Arc->Nat}(hk:KeyF zM g f)(hf: ∀a∈u.arcs,f a<u.nodes):Ret zM 166 [.func (.func g) #[] #[],ptrTo b] h0 fun v h'=>Gr h0 h'/\iU h' h0.n v u.nodes (outs u.arcs f u.arcs.length):=by
 have S:=Si ok;have n2:=J.n2;have L:=J.many;obtain⟨N,X,Y,A⟩:=u;simp only []at hb n2 L hf;have M:aw h0 3 cQ K A:=ga.A;have l0:=hb.load1 (o:=0) rfl;have l3:=hb.load1 (o:=3) rfl;refine erA (n:=85) (rs:=[.tmp 3]) Tryz.e166 ?_;simp only [BZ,l0,seval];refine ab (mJ (by exact Tryz.t41.1) (by exact Tryz.e3E) (by omega) (by omega)) S ?_;clear S;intro h B S al;rw [tB]at S;replace S:St NoM h0 h [(B,.row ((Xa N).map (pP A f 0)) 1)] []:=S;simp only [BZ,S.old l3 (fun h=>h),M.lenq,XF,seval];refine aX (fun(i:Nat) m h=>i<=A.length/\St NoM h0 h [(B,.row ((Xa N).map (pP A f i)) 1)] []/\m 0=.func (.func g) #[] #[]/\m 1=ptrTo b/\m 4=.slice (some ⟨B,0,none⟩) N N/\m 18=K/\m 19=.int .i64 A.length/\m 20=.int .i64 i) (fun i=>A.length-i) ?_ 0 _ _ ?_
 . clear S;intro i O m h ⟨hi,S,r0,r1,r4,r18,r19,r20⟩;by_cases hlt:i<A.length
   . obtain⟨c,o,t,C⟩:=(M.gr S.gr).ix (kd:=.i64) jS hlt;have p:f A[i]<N:=hf _ (Xw hlt);have a2:=jQ A f i (f A[i]);have w:am .i64 ((i:Int)+1)=((i+1:Nat):Int):=(by rw [wrap64]<;>omega);have W:am .i64 (((outs A f i (f A[i])).length:Int)+1)=(((outs A f i (f A[i])).length+1:Nat):Int):=(by rw [wrap64]<;>omega);simp only [BZ,r18,r19,r20,aE,hlt,t,C,seval];refine ab au S ?_;clear S;intro h b6 S ax;simp only [BZ,cQ,seval];refine az (stA S (i:=0) Tryz.t135.2.1) ?_;clear S;rintro h ⟨S,y⟩;clear y;simp only [LC,ac,lay,Xd,Xe,seval]at S;simp only [BZ,r0,r4,S.lds (b:=b6) (o:=0) (n:=3) m0 (lbt rfl),seval];refine ae (hk _ A[i] S.ok) ?_;intro h g;replace S:=S.call g;have D:=S.ld (b:=B) (o:=f A[i]) m1 (lH (F:=pP A f i) p);unfold pP at D;simp only [BZ,p,D,W,seval];refine az (aA S (i:=1) rfl Tryz.t3.2.2.1 aM (by simpa using p) ono) ?_;clear S D;rintro h ⟨S,y⟩;clear y;simp only [LC]at S;rw [cnt_set hlt]at S;replace S:=S.drop1;simp only [BZ,r20,w,seval];exact O (i+1) _ _ (by omega) ⟨by omega,S,by simp [aB,r0,r1,ah,r4,r18,r19]⟩
   . have E : i=A.length:=(by omega);subst E;simp only [BZ,r19,r20,aE,hlt,seval];refine ao (av rfl) (q:=72) (ps:=[]) (by kernel_rfl) ?_;simp only [BZ,cls,r1,S.old l3 (fun h=>h),M.lenq,seval];refine cV (mJ (by exact Tryz.t41.1) (by exact Tryz.e3E) (by omega) (by omega)) S ?_;clear S;intro h d S Q ay;rw [tB]at S;simp only [BZ,cls,r1,S.old l0 (fun h=>h),XF,seval];refine cV (mJ (by exact Tryz.t90.1) (by exact Tryz.e41E) (by omega) (by omega)) S ?_;clear S;intro h H S R aL;rw [tB]at S;simp only [BZ,cls,r4,XF,seval];have e0:(Xa N).map (fun v=>if v<0 then jn A f d v 0 else .slice none 0 0)=(Xa N).map (fun _=>(.slice none 0 0:Value)):=(by simp);rw [<-e0]at S;refine aX (fun(j:Nat) m h=>j<=N/\St NoM h0 h [(H,.row ((Xa N).map fun v=>if v<j then jn A f d v 0 else .slice none 0 0) 1),(d,.row ((Xa A.length).map fun _=>.int .i64 0) 1),(B,.row ((Xa N).map (pP A f A.length)) 1)] []/\
      m 0=.func (.func g) #[] #[]/\m 1=ptrTo b/\m 7=.slice (some ⟨d,0,none⟩) A.length A.length/\m 8=.slice (some ⟨H,0,none⟩) N N/\m 9=.int .i64 (start A f j)/\m 40=.slice (some ⟨B,0,none⟩) N N/\m 41=.int .i64 N/\m 42=.int .i64 j) (fun j=>N-j) ?_ 0 _ _ ?_
     . clear S r0 r1 r4 r18 r19 r20;intro j O m h ⟨hj,S,r0,r1,r7,r8,r9,r40,r41,r42⟩;by_cases z:j<N
       . have D:=S.ld (b:=B) (o:=j) m2 (lH (F:=pP A f A.length) z);unfold pP at D;have ad:=sk A f j;have w:am .i64 ((j:Int)+1)=((j+1:Nat):Int):=(by rw [wrap64]<;>omega);have W:am .i64 ((start A f j:Int)+((outs A f A.length j).length:Nat))=((start A f j+(outs A f A.length j).length:Nat):Int):=(by rw [wrap64]<;>omega);have sl:iq zM 41 (.slice (some ⟨d,0,none⟩) A.length A.length) (some (.int .i64 (start A f j))) (some (.int .i64 (start A f j))) (some (.int .i64 ((start A f j+(outs A f A.length j).length:Nat):Int)))=some (jn A f d j 0):=by
          rw [slice_at Tryz.t41.1 Tryz.t3.2.2.1 (by omega) (by omega)];unfold jn;rw [Yr,Xj];by_cases G:(outs A f A.length j).length=0
          . rw [if_pos (by omega),if_pos G]
          . rw [if_neg (by omega),if_neg G]
         have fr:Fl (jn A f d j 0):=bH;simp only [BZ,XN,r7,r8,r9,r40,r41,r42,aE,z,D,W,sl,seval];refine az (aA S (i:=0) rfl Tryz.t41.2.2.1 fr (by simpa using z) ono) ?_;clear S D;rintro h ⟨S,y⟩;clear y;simp only [LC]at S;rw [show((Xa N).map fun v=>if v<j then jn A f d v 0 else .slice none 0 0).set j (jn A f d j 0)=(Xa N).map fun v=>if v<j+1 then jn A f d v 0 else .slice none 0 0 from by
          have:=kW (N:=N) (k:=j) (F:=fun v=>if v<j then jn A f d v 0 else .slice none 0 0) (F':=fun v=>if v<j+1 then jn A f d v 0 else .slice none 0 0) (fun v I T=>by
           show ite _ _ _=ite _ _ _;by_cases h1:v<j
           . rw [if_pos h1,if_pos (by omega)]
           . rw [if_neg h1,if_neg (by omega)])
          simp only [if_pos (show j<j+1 by omega)]at this;exact this]at S
         simp only [BZ,r9,r42,w,W,seval];exact O (j+1) _ _ (by omega) ⟨by omega,S,by simp [aB,r0,r1,ah,r7,r8,start,r40,r41]⟩
       . have af:j=N:=(by omega);subst af;simp only [BZ,r1,r41,r42,aE,z,S.old l3 (fun h=>h),M.lenq,seval];have e1:((Xa j).map fun v=>if v<j then jn A f d v 0 else .slice none 0 0)=(Xa j).map fun v=>jn A f d v (outs A f 0 v).length:=(by refine List.map_congr_left fun v I=>?_;rw [if_pos (List.mem_range.1 I)];rfl);rw [e1]at S;refine aX (fun(i:Nat) m h=>i<=A.length/\(∃Z,zP A f j i Z/\St NoM h0 h [(H,.row ((Xa j).map fun v=>jn A f d v (outs A f i v).length) 1),(d,.row Z 1),(B,.row ((Xa j).map (pP A f A.length)) 1)] [])/\
          m 0=.func (.func g) #[] #[]/\m 1=ptrTo b/\m 8=.slice (some ⟨H,0,none⟩) j j/\m 62=K/\m 63=.int .i64 A.length/\m 64=.int .i64 i) (fun i=>A.length-i) ?_ 0 _ _ ?_
         . clear S r0 r1 r7 r8 r9 r40 r41 r42;intro i O m h ⟨hi,⟨Z,hcs,S⟩,r0,r1,r8,r62,r63,r64⟩;by_cases hlt:i<A.length
           . obtain⟨c,o,t,C⟩:=(M.gr S.gr).ix (kd:=.i64) jS hlt;have p:f A[i]<j:=hf _ (Xw hlt);have w:am .i64 ((i:Int)+1)=((i+1:Nat):Int):=(by rw [wrap64]<;>omega);simp only [BZ,r62,r63,r64,aE,hlt,t,C,seval];refine ab au S ?_;clear S;intro h U S ai;simp only [BZ,cQ,seval];refine az (stA S (i:=0) Tryz.t135.2.1) ?_;clear S;rintro h ⟨S,y⟩;clear y;simp only [LC,ac,lay,Xd,Xe,seval]at S;simp only [BZ];refine ao (av rfl) (q:=2184) (ps:=[(3,6)]) (by kernel_rfl) ?_;simp only [BZ,cls,r0,r8,S.lds (b:=U) (o:=0) (n:=3) m0 (lbt rfl),seval];refine rf (hk _ A[i] S.ok) ?_;intro h V;replace S:=S.call V;clear V;simp only [BZ,cls,r0,r8,S.lds (b:=U) (o:=0) (n:=3) m0 (lbt rfl),seval];refine rf (hk _ A[i] S.ok) ?_;intro h V;replace S:=S.call V;clear V;have hd:A.getD i default=A[i]:=(by simp [zO,hlt]);have hl:(outs A f (i+1) (f A[i])).length<=(outs A f A.length (f A[i])).length:=Ap A f (by omega) _;rw [jF,hd,if_pos rfl,Xu,Yb]at hl;have ad:=sk A f (f A[i]);have hK:(outs A f A.length (f A[i])).length≠0:=(by omega);have lr:=S.ld (b:=H) (o:=f A[i]) m1 (lH (F:=fun v=>jn A f d v (outs A f i v).length) p);simp only [jn,if_neg hK]at lr;simp only [BZ,cls,p,lr,seval];refine cV (bZ (by exact Tryz.t41.1) (by exact Tryz.e3E) (by decide) (by rfl)) S ?_;clear S;intro h bs S a0 a1;simp only [LC,bJ,cd,ac,Xm,Xi,Xj,Xp,seval]at S;simp only [BZ,cls,seval];obtain⟨h2,e2,S2,ak⟩:=S.fill (i:=3) (x:=.slice (some ⟨bs,0,none⟩) 1 1) (v:=.int .i64 (i:Nat)) (off:=start A f (f A[i])) (len:=(outs A f i (f A[i])).length) (cap:=(outs A f A.length (f A[i])).length) (s:=none) rfl Tryz.t41.1 Tryz.e3E Tryz.t41.2.2.2.2.2
              (by simp only [aR];rw [S.lds (b:=bs) (o:=0) (n:=1*1) m0 (lbt rfl)];rfl) aM (by omega) (by have:=hcs.1;omega) ono (ts:=[])
             refine lu (P:=fun h' v=>h'=h2/\v=.slice (some ⟨d,start A f (f A[i]),none⟩) ((outs A f i (f A[i])).length+1) (outs A f A.length (f A[i])).length) ⟨_,_,e2,rfl,rfl⟩ ?_;rintro h v ⟨rfl,rfl⟩;clear S e2 ak;have S:=S2;clear S2;simp only [LC]at S;simp only [BZ,cls,p,seval];refine cJ (aA S (i:=2) rfl Tryz.t41.2.2.1 bH (by simpa using p) ono) ?_;clear S;rintro h ⟨S,y⟩;clear y;simp only [LC]at S;have e3:((Xa j).map fun v=>jn A f d v (outs A f i v).length).set (f A[i]) (.slice (some ⟨d,start A f (f A[i]),none⟩) ((outs A f i (f A[i])).length+1) (outs A f A.length (f A[i])).length)=(Xa j).map fun v=>jn A f d v (outs A f (i+1) v).length:=by
              have:=kW (N:=j) (k:=f A[i]) (F:=fun v=>jn A f d v (outs A f i v).length) (F':=fun v=>jn A f d v (outs A f (i+1) v).length) (fun v I T=>by
               show jn _ _ _ _ _=jn _ _ _ _ _;rw [jF,hd,if_neg (fun e=>T e.symm),XG])
              rw [<-this];congr 1;show _=jn _ _ _ _ _;rw [jF,hd,if_pos rfl,Xu];unfold jn;rw [if_neg hK];rfl
             rw [e3]at S;replace S:=S.drop1.drop1;simp only [BZ,r64,w,seval];refine⟨by simp only [aI,aO,aF,aK,aH,ne_eq,not_false_eq_true,aU,aY,aN,aJ,bw,bN,aD,XA,r0,r1,r8,ah,AV,jD,jC,pair_n,seval],?_⟩;exact O (i+1) _ _ (by omega) ⟨by omega,⟨_,fill_step hcs hlt,S⟩,by simp [aB,r0,r1,ah,r8,r62,r63]⟩
           . have E:i=A.length:=(by omega);subst E;simp only [BZ,aa,r8,r63,r64,aE,hlt,seval];refine⟨S.gr,H,_,rfl,R,S.row m0,by simp,fun v I=>⟨_,lH I,.inr ⟨d,_,none,_,rfl,XD _,?_⟩,fun c (hc:d=c)=>hc▸Q⟩⟩;have hR:=S.row (b:=d) (l:=Z) (md:=1) m1;have ht:=sk A f v;have hl:=hcs.1;rw [Xj];by_cases G:(outs A f A.length v).length=0
             . rw [if_pos G,G,hR.load (by omega)];rw [List.length_eq_zero_iff.1 G];rfl
             . rw [if_neg G,hR.load (by omega)];congr 1;refine Xt fun r=>?_;have e4:(outs A f A.length v).flatMap bM=(outs A f A.length v).map fun x=>.int .i64 (x:Nat):=(by rw [Xq,XR,Xq];rfl);rw [e4,Xn,List.getElem?_take,List.getElem?_drop];by_cases hr:r<(outs A f A.length v).length
               . rw [if_pos hr,hcs.2 v r _ I (Xf hr),Xf hr];rfl
               . rw [if_neg hr,Xy (by omega)];rfl
         . exact⟨XP _,⟨_,fill_zero,S⟩,by simp [aB,r0,r1,ah,r8]⟩
     . exact⟨XP _,S,by simp [aB,r0,r1,ah,start,r4]⟩
 . exact⟨XP _,S,by simp [aB,cK,dE,ah]⟩
theorem of_ok(E:OZ h0){q:Gra}(d:mC q){s t:Value}(u:eg h0 r s t q)(w:m<=h0.n)(F: ∀c,ar r c\/ar s c\/ar t c->m<=c):Ret zM 79 [ni q r s t] h0 fun v h'=>Gr h0 h'/\aP h' m v q:=by
 have S:=Si E;refine erA (n:=20) (rs:=[.tmp 2]) Tryz.e79 ?_;simp only [BZ,ni,seval];refine ab (aW (by intro x e;cases e)) S ?_;clear S;intro h b S G;simp only [ac]at S;simp only [BZ,XE,XL,XV,S.lds (b:=b) (o:=0) (n:=4) m0 (lbt rfl),seval];refine ab (aW (by intro x e;cases e)) S ?_;clear S;intro h l S p;simp only [ac]at S;simp only [BZ,seval];have H:=S.fr.n;have y:=(S.row (b:=l) m0).lt S.ok;refine step_ret (of1_ok S.ok d (S.row m1) (u.gr S.gr) of2_key (fun a z=>(d.arcs a z).1)) ?_;intro B h ⟨g,f⟩;replace S:=S.call g;simp only [BZ,seval];have I:=S.fr.n;have A:=(S.row (b:=l) m0).lt S.ok;refine step_ret (of1_ok S.ok d (S.row m1) (u.gr S.gr) of3_key (fun a z=>(d.arcs a z).2.1)) ?_;intro v h ⟨g,k⟩;replace S:=S.call g;replace f:=f.gr g;clear g;have J:Fl v:=by obtain⟨_,_,rfl,_⟩:=k;exact bH
 have K:Fl B:=by obtain⟨_,_,rfl,_⟩:=f;exact bH
 simp only [BZ,seval];have C: ∀c,c=l->c<_:=fun c e=>e▸y;have D: ∀c,c=l->c<_:=fun c e=>e▸A;refine az (aA S (i:=0) rfl ?_ ?_ ?_ ono) ?_
 . exact(by simp only [FA0])
 . exact(by assumption)
 . exact Xc (lbt rfl)
 clear S;rintro h ⟨S,j⟩;replace f:=f.mo j C;replace k:=k.mo j D;clear j;simp only [LC,ac,lay,Xd,Xe,seval]at S;simp only [BZ,seval];refine az (aA S (i:=0) rfl ?_ ?_ ?_ ono) ?_
 . exact(by simp only [FA0])
 . exact(by assumption)
 . exact Xc (lbt rfl)
 clear S;rintro h ⟨S,j⟩;replace f:=f.mo j C;replace k:=k.mo j D;clear j;simp only [LC,ac,lay,Xd,Xe,seval]at S;simp only [BZ,aa,seval];exact⟨S.gr,l,r,s,t,B,v,rfl,S.row m0,u.gr S.gr,f.low (Xk w H),k.low (Xk w I),Xk w p,F⟩
theorem netNew_ok(l:OZ h0){d:Gra}(a:mC d){i j:Value}(k:eg h0 f i j d):Ret zM 32 [ni d f i j] h0 fun r h'=> ∃v,r=.tuple #[v,.nilIface]/\Gr h0 h'/\aP h' h0.n v d:=by
 have S:=Si l;refine erA (n:=17) (rs:=[.tmp 2,.tmp 3]) Tryz.e32 ?_;simp only [BZ,ni,seval];refine ab (aW (by intro x e;cases e)) S ?_;clear S;intro h b S p;simp only [ac]at S;simp only [BZ,XE,XL,XV,S.lds (b:=b) (o:=0) (n:=4) m0 (lbt rfl),seval];refine ae (check_ok S.ok a (k.gr S.gr)) ?_;intro h g;replace S:=S.call g;simp only [BZ,XE,XL,XV,S.lds (b:=b) (o:=0) (n:=4) m0 (lbt rfl),seval];have q:=S.fr.n;refine step_ret (own_ok S.ok a (k.gr S.gr)) ?_;intro v h ⟨g,vx',vy',va',s,ga',hz,_⟩;replace S:=S.call g;subst s;simp only [BZ,seval];refine step_ret (of_ok S.ok a ga' (m:=h0.n) S.fr.n (fun c t=>Xk q (hz c t))) ?_;intro v h ⟨g,R⟩;replace S:=S.call g;simp only [BZ,aa,seval];exact⟨_,rfl,S.gr,R⟩
structure Hd where
 id:Nat
 key:Int
deriving Inhabited,DecidableEq
variable{l:List Hd}
def hle(a b:Hd):Prop:=a.key<b.key\/(a.key=b.key/\a.id<=b.id)
def hlt(a b:Hd):Prop:=a.key<b.key\/(a.key=b.key/\a.id<b.id)
instance (a b:Hd):Decidable (hlt a b):=by unfold hlt;infer_instance
theorem yX{a b:Hd}(h: ¬hlt a b):hle b a:=by unfold hlt at h;unfold hle;omega
theorem vk{a b:Hd}(h:hlt a b):hle a b:=by unfold hlt at h;unfold hle;omega
theorem mP{a b c:Hd}(h:hle a b)(k:hle b c):hle a c:=by unfold hle at*;omega
theorem yF(a:Hd):hle a a:=by unfold hle;omega
def sw(l:List Hd)(i k:Nat):List Hd:=(l.set i (l.getD k default)).set k (l.getD i default)
theorem jr(l:List Hd)(i k:Nat):(sw l i k).length=l.length:=by simp [sw]
theorem rq(l:List Hd)(i j:Nat)(x:Hd):(l.set i x).getD j default=if i=j/\j<l.length then x else l.getD j default:=by grind
theorem jX(l:List Hd)(a:i<l.length)(b:k<l.length)(j:Nat):(sw l i k).getD j default=if j=k then l.getD i default else if j=i then l.getD k default else l.getD j default:=by unfold sw;grind
theorem wD(l:List Hd)(a:i<l.length)(b:k<l.length):(sw l i k).Perm l:=by grind[set,List.set_set_perm,sw,default]
def oR(l:List Hd):Prop:= ∀j,0<j->j<l.length->hle (l.getD ((j-1)/4) default) (l.getD j default)
def ue(l:List Hd)(i:Nat):Prop:=(∀j,0<j->j<l.length->j≠i->hle (l.getD ((j-1)/4) default) (l.getD j default))/\ ∀j,0<j->j<l.length->(j-1)/4=i->0<i->hle (l.getD ((i-1)/4) default) (l.getD j default)
theorem up_done(h:ue l i)(c:i=0\/hle (l.getD ((i-1)/4) default) (l.getD i default)):oR l:=by
 intro j a b;by_cases e:j=i
 . grind
 . exact h.1 j a b e
theorem up_step(e:i<l.length)(h:ue l i)(h0:0<i)(m:hlt (l.getD i default) (l.getD ((i-1)/4) default)):ue (sw l i ((i-1)/4)) ((i-1)/4):=by
 have c:(i-1)/4<l.length:=by omega
 generalize f:(i-1)/4=p at*
 have s:p<i:=by omega
 refine⟨fun j d a n=>?_,fun j d a n o=>?_⟩
 . rw [jr]at a;rw [jX l e c,jX l e c,if_neg n];by_cases b:j=i
   . subst b;rw [f,if_pos rfl,if_pos rfl];exact vk m
   . rw [if_neg b];by_cases g:(j-1)/4=p
     . rw [if_pos g];have:=h.1 j d a b;rw [g]at this;exact mP (vk m) this
     . rw [if_neg g];by_cases k:(j-1)/4=i
       . rw [if_pos k];have:=h.2 j d a k h0;grind
       . rw [if_neg k];exact h.1 j d a b
 . rw [jr]at a;have q: ¬(p-1)/4=p:=(by omega);have r: ¬(p-1)/4=i:=(by omega);rw [jX l e c,jX l e c,if_neg q,if_neg r,if_neg (show¬j=p by omega)];have t:=h.1 p o c (by omega);by_cases b:j=i
   . grind
   . rw [if_neg b];have:=h.1 j d a b;grind[mP]
def wC(l:List Hd)(i:Nat):Prop:=(∀j,0<j->j<l.length->(j-1)/4≠i->hle (l.getD ((j-1)/4) default) (l.getD j default))/\ ∀j,0<j->j<l.length->(j-1)/4=i->0<i->hle (l.getD ((i-1)/4) default) (l.getD j default)
theorem dn_done(h:wC l i)(c: ∀j,0<j->j<l.length->(j-1)/4=i->hle (l.getD i default) (l.getD j default)):oR l:=by
 intro j a b;by_cases e:(j-1)/4=i
 . grind
 . exact h.1 j a b e
theorem dn_step(h:wC l i)(o:0<b)(a:b<l.length)(m:(b-1)/4=i)(p:hlt (l.getD b default) (l.getD i default))(q: ∀j,0<j->j<l.length->(j-1)/4=i->hle (l.getD b default) (l.getD j default)):wC (sw l i b) b:=by
 have d:i<l.length:=by omega
 refine⟨fun j e c f=>?_,fun j e c f _=>?_⟩
 . rw [jr]at c;rw [jX l d a,jX l d a,if_neg f];by_cases g:(j-1)/4=i
   . rw [if_pos g];by_cases k:j=b
     . rw [if_pos k];exact vk p
     grind
   . rw [if_neg g];by_cases k:j=b
     . omega
     . rw [if_neg k];by_cases n:j=i
       . subst n;rw [if_pos rfl];exact h.2 b o a m e
       . rw [if_neg n];exact h.1 j e c g
 . rw [jr]at c;rw [jX l d a,jX l d a,m,if_neg (show¬i=b by omega),if_pos rfl,if_neg (show¬j=b by omega),if_neg (show¬j=i by omega)];have:=h.1 j e c (by omega);rwa [f]at this
theorem C3(h:oR l): ∀j,j<l.length->hle (l.getD 0 default) (l.getD j default):=by
 intro j
 induction j using Nat.strongRecOn with
 | _ j a=>
   intro b;by_cases e:j=0
   . subst e;exact yF _
   . exact mP (a ((j-1)/4) (by omega) (by omega)) (h j (by omega) b)
theorem qj(l m:List Hd)(a:j<l.length):(l++m).getD j default=l.getD j default:=by grind
theorem AU(h:oR l)(x:Hd):ue (l++[x]) l.length:=by
 refine⟨fun j a b c=>?_,fun j a b c _=>?_⟩
 . simp at b;rw [qj l _ (by omega),qj l _ (by omega)];exact h j a (by omega)
 grind
theorem E6(h:oR l){x:Hd}(k:hle x (l.getD i default)):ue (l.set i x) i:=by
 refine⟨fun j b a c=>?_,fun j b a c f=>?_⟩
 . rw [Xs]at a;rw [rq,rq,if_neg (show¬(i=j/\_)from fun e=>c e.1.symm)]
   split
   . rename_i e;have:=h j b a;grind[mP]
   . exact h j b a
 . rw [Xs]at a;rw [rq,rq,if_neg (show¬(i=j/\_) by omega),if_neg (show¬(i=(i-1)/4/\_) by omega)];have g:=h i f (by omega);have d:=h j b a;rw [c]at d;exact mP g d
theorem getD_take(l:List Hd)(a:j<n):(l.take n).getD j default=l.getD j default:=by grind
theorem heap_pop(h:oR l)(d:0<l.length):wC ((sw l 0 (l.length-1)).take (l.length-1)) 0:=by
 refine⟨fun j a b c=>?_,fun j a b c e=>?_⟩
 . rw [XM,jr]at b;rw [getD_take _ (by omega),getD_take _ (by omega),jX l (by omega) (by omega),jX l (by omega) (by omega),if_neg (by omega),if_neg (by omega),if_neg (by omega),if_neg (by omega)];exact h j a (by omega)
 . omega
def ji(l:List Hd)(K:Nat->Option Int):Prop:=(l.map Hd.id).Nodup/\ ∀v k,K v=some k↔⟨v,k⟩∈l
def dw(K:Nat->Option Int)(v:Nat)(x:Option Int):Nat->Option Int:=fun u=>if u=v then x else K u
theorem ji.perm{m:List Hd}(h:ji l K)(p:m.Perm l):ji m K:=
 ⟨(p.map Hd.id).nodup_iff.2 h.1,fun v k=>by rw [h.2];grind⟩
theorem ji.free(h:ji l K)(c:K v=none):v∉l.map Hd.id:=by intro a;obtain⟨x,b,rfl⟩:=List.mem_map.1 a;have:=(h.2 x.id x.key).2 b;grind
theorem ji.push(h:ji l K)(d:K v=none)(k:Int):ji (l++[⟨v,k⟩]) (dw K v (some k)):=by
 refine⟨?_,fun u x=>?_⟩
 . rw [List.map_append,XI];exact⟨h.1,by simp,fun a f b g e=>h.free d (by grind)⟩
 . unfold dw;by_cases e:u=v
   . subst e;rw [if_pos rfl,List.mem_append];constructor
     . grind
     . rintro(c|c)
       . have:=(h.2 u x).2 c;grind
       grind
   . rw [if_neg e,List.mem_append,h.2];grind
theorem nodup_idx(h:(l.map Hd.id).Nodup)(a:i<l.length)(b:j<l.length)(e:(l.getD i default).id=(l.getD j default).id):i=j:=by refine qA h (x:=(l.getD i default).id) (by simp [a]) ?_;grind
theorem ji.lower(h:ji l K)(f:i<l.length)(k:Int):ji (l.set i ⟨(l.getD i default).id,k⟩) (dw K (l.getD i default).id (some k)):=by
 have g:(l.set i ⟨(l.getD i default).id,k⟩).map Hd.id=l.map Hd.id:=by rw [Yn];refine Xt fun j=>?_;grind
 refine⟨by rw [g];exact h.1,fun u x=>?_⟩;unfold dw;by_cases e:u=(l.getD i default).id
 . rw [if_pos e];constructor
   . intro m;cases m;subst e;exact List.mem_iff_getElem?.2 ⟨i,by simp [f]⟩
   . intro b;obtain⟨j,a⟩:=List.mem_iff_getElem?.1 b;rw [XU]at a
     split at a
     . cases a;rfl
     . rename_i c;have d:=(List.getElem?_eq_some_iff.1 a).1;exact absurd (nodup_idx h.1 f d (by grind)) c
 . rw [if_neg e,h.2];constructor
   . intro b;obtain⟨j,a⟩:=List.mem_iff_getElem?.1 b;refine List.mem_iff_getElem?.2 ⟨j,?_⟩;grind
   grind
theorem ji.pop(h:ji l K)(b:0<l.length):ji ((sw l 0 (l.length-1)).take (l.length-1)) (dw K (l.getD 0 default).id none):=by
 have p:=wD l (i:=0) (k:=l.length-1) b (by omega);have c:=h.perm p;have e:sw l 0 (l.length-1)=(sw l 0 (l.length-1)).take (l.length-1)++[l.getD 0 default]:=by refine Xt fun j=>?_;have g:=jX l (i:=0) (k:=l.length-1) b (by omega) (l.length-1);rw [if_pos rfl]at g;grind[jr,XB,List.getElem?_take_of_lt,Xr,Xy]
 generalize(sw l 0 (l.length-1)).take (l.length-1)=m at*
 generalize l.getD 0 default=x at*
 rw [e]at c;obtain⟨a,o⟩:=c;rw [List.map_append,XI]at a;refine⟨a.1,fun v k=>?_⟩;unfold dw;by_cases d:v=x.id
 . rw [if_pos d];constructor
   . intro h;cases h
   . intro n;exact absurd d (a.2.2 v (List.mem_map_of_mem (f:=Hd.id) n) x.id (by simp))
 grind
theorem ji.at(h:ji l K)(a:i<l.length):K (l.getD i default).id=some (l.getD i default).key:=
 (h.2 _ _).2 (List.mem_iff_getElem?.2 ⟨i,by simp [a]⟩)
theorem ji.idx(h:ji l K){k:Int}(a:K v=some k): ∃i,i<l.length/\l.getD i default=⟨v,k⟩:=by obtain⟨i,b⟩:=List.mem_iff_getElem?.1 ((h.2 v k).1 a);grind
theorem ji.nil(h:ji [] K)(v:Nat):K v=none:=by
 cases a:K v with
 |none=>rfl|some k=>have:=(h.2 v k).1 a;cases this
theorem cont_nil:ji [] (fun _=>none):=⟨.nil,fun v k=>by grind⟩
def FAR:Nat:=72057594037927936
def cg:Nat:=2147483647
theorem hU:FAR=72057594037927936:=rfl
theorem kK:cg=2147483647:=rfl
inductive Wk(B:List Arc)(s:Nat):Nat->Nat->Prop where
 |nil:Wk B s s 0
 |snoc {w:Nat} {a:Arc}:a∈B->Wk B s a.s w->Wk B s a.t (w+a.w)
def IsD(B:List Arc)(s v x:Nat):Prop:=(x<FAR/\Wk B s v x/\ ∀w,Wk B s v w->x<=w)\/(x=FAR/\ ∀w,¬Wk B s v w)
theorem IsD.uniq{B:List Arc}{x y:Nat}(h:IsD B s v x)(k:IsD B s v y):x=y:=by
 rcases h with⟨a,b,c⟩|⟨a,b⟩<;>rcases k with⟨d,e,f⟩|⟨d,e⟩
 . have:=c _ e;have:=f _ b;omega
 . exact absurd b (e _)
 . exact absurd e (b _)
 . omega
theorem IsD.le{B:List Arc}{x:Nat}(h:IsD B s v x):x<=FAR:=by rcases h with⟨a,_,_⟩|⟨a,_⟩<;>omega
theorem pM: ∀(N:Nat) (l:List Nat),l.Nodup->(∀x∈l,x<N)->l.length<=N
 | 0,l,_,h=>by
   cases l with
   |nil=>simp|cons x l=>have:=h x (by simp);omega
 | N+1,l,b,h=>by
   have f:=pM N (l.erase N) (b.erase N) (fun x c=>by
    have d:=h x (List.mem_of_mem_erase c);have g:x≠N:=fun e=>(by subst e;exact(List.Nodup.not_mem_erase b) c);omega)
   have d:=List.length_erase (a:=N) (l:=l)
   split at d<;>omega
section
variable{B:List Arc}{s N:Nat}{O:List Nat}{D:Nat->Nat}{K:Nat->Option Int}{ex:Arc->Prop}
structure Dj(B:List Arc)(s N:Nat)(O:List Nat)(D:Nat->Nat)(K:Nat->Option Int)(ex:Arc->Prop):Prop where
 i1: ∀v,v∈O->K v=none
 i2: ∀v∈O,Wk B s v (D v)/\(∀w,Wk B s v w->D v<=w)/\D v<=O.length*cg
 i2f: ∀v,v∉O->D v=FAR
 i3: ∀v k,K v=some k->v<N/\ ∃n:Nat,k=n/\Wk B s v n/\n<=O.length*cg
 i4: ∀a∈B,a.s∈O-> ¬ex a->a.t∈O\/ ∃k:Int,K a.t=some k/\k<=D a.s+a.w
 i5:s∈O\/K s=some 0
 nd:O.Nodup
 lt: ∀v∈O,v<N
theorem Dj.len(d:Dj B s N O D K ex):O.length<=N:=pM N O d.nd d.lt
theorem dj_init(b:s<N):Dj B s N [] (fun _=>FAR) (dw (fun _=>none) s (some 0)) (fun _=>False):=by
 refine⟨fun v h=>(by cases h),fun v h=>(by cases h),fun v _=>rfl,fun v k h=>?_,fun a _ h=>(by cases h),.inr (by simp [dw]),.nil,fun v h=>(by cases h)⟩;unfold dw at h
 split at h
 . rename_i e;cases h;subst e;exact⟨b,0,rfl,.nil,by simp⟩
 . cases h
theorem Dj.front(d:Dj B s N O D K (fun _=>False)){x w:Nat}(h:Wk B s x w):x∈O\/ ∃y k,K y=some k/\k<=(w:Int):=by
 induction h with
 |nil=>exact d.i5.imp (fun h=>h) (fun h=>⟨_,_,h,by omega⟩)
 | @snoc w a e f b=>
   rcases b with b|⟨y,k,c,g⟩
   . rcases d.i4 a e b (fun h=>h)with h|⟨k,c,g⟩
     . exact .inl h
     . have:=(d.i2 _ b).2.1 _ f;exact .inr ⟨_,k,c,by omega⟩
   . exact .inr ⟨y,k,c,by omega⟩
theorem Dj.pop(d:Dj B s N O D K (fun _=>False))(q:K v=some (n:Int))(A: ∀u k,K u=some k->(n:Int)<=k):Dj B s N (O++[v]) (fun u=>if u=v then n else D u) (dw K v none) (fun a=>a.s=v)/\v∉O/\v<N/\n<=O.length*cg:=by
 have g:v∉O:=fun h=>by have:=d.i1 v h;rw [q]at this;cases this
 obtain⟨i,C,e,E,l⟩:=d.i3 v _ q;have e:n=C:=by omega
 subst e;have r:(O++[v]).length*cg=O.length*cg+cg:=by rw [Xu,Yb,Nat.succ_mul]
 refine⟨⟨fun u f=>?_,fun u f=>?_,fun u f=>?_,fun u k f=>?_,fun a o t x=>?_,?_,?_,fun u f=>?_⟩,g,i,l⟩
 . unfold dw;by_cases e:u=v
   . rw [if_pos e]
   . rw [if_neg e];simp [e]at f;exact d.i1 u f
 . rw [r];by_cases e:u=v
   . subst e;simp only [if_true];refine⟨E,fun w h=>?_,by omega⟩;rcases d.front h with j|⟨y,k,j,z⟩
     . exact absurd j g
     . have:=A y k j;omega
   . simp only [e,if_false];simp [e]at f;obtain⟨a,b,c⟩:=d.i2 u f;exact⟨a,b,by omega⟩
 . simp at f;simp only [f.2,if_false];exact d.i2f u f.1
 . unfold dw at f
   split at f
   . cases f
   . obtain⟨a,m,b,c,e⟩:=d.i3 u k f;exact⟨a,m,b,c,by rw [r];omega⟩
 . simp [x]at t;have p: ¬a.s=v:=x;simp only [p,if_false];rcases d.i4 a o t (fun h=>h)with h|⟨k,j,z⟩
   . exact .inl (by simp [h])
   . by_cases e:a.t=v
     . exact .inl (by simp [e])
     . exact .inr ⟨k,by unfold dw;rw [if_neg e];exact j,z⟩
 . rcases d.i5 with h|h
   . exact .inl (by simp [h])
   . by_cases e:s=v
     . exact .inl (by simp [e])
     . exact .inr (by unfold dw;rw [if_neg e];exact h)
 . rw [XI];exact⟨d.nd,by simp,fun a o b l e=>g (by simp at l;subst l;subst e;exact o)⟩
 . rcases List.mem_append.1 f with h|h
   . exact d.lt u h
   . simp at h;subst h;exact i
def kI(O:List Nat)(K:Nat->Option Int)(u:Nat)(x:Int):Nat->Option Int:=if u∈O then K else match K u with
 |some k=>if k<=x then K else dw K u (some x)
 |none=>dw K u (some x)
theorem Dj.relaxed(d:Dj B s N O D K ex){a:Arc}(t:a∈B)(u:a.s∈O)(w:a.t<N)(m:D a.s+a.w<=O.length*cg)(x: ∀b∈B,¬ex' b-> ¬ex b\/b=a):Dj B s N O D (kI O K a.t ((D a.s+a.w:Nat):Int)) ex':=by
 have f: ∀i,(∀v,v∈O->i v=K v)->(∀v k,i v=some k->K v=some k\/(v=a.t/\k=((D a.s+a.w:Nat):Int)))->(∀v k,K v=some k-> ∃j,i v=some j/\j<=k)->(a.t∈O\/ ∃k:Int,i a.t=some k/\k<=D a.s+a.w)->Dj B s N O D i ex':=by
  intro i y q r z;refine⟨fun v c=>by rw [y v c];exact d.i1 v c,d.i2,d.i2f,fun v k g=>?_,fun b m n o=>?_,?_,d.nd,d.lt⟩
  . rcases q v k g with h|⟨rfl,rfl⟩
    . exact d.i3 v k h
    . exact⟨w,_,rfl,.snoc t (d.i2 _ u).1,m⟩
  . rcases x b m o with h|rfl
    . rcases d.i4 b m n h with h|⟨k,A,E⟩
      . exact .inl h
      . obtain⟨j,l,C⟩:=r _ _ A;exact .inr ⟨j,l,by omega⟩
    . exact z
  . rcases d.i5 with h|h
    . exact .inl h
    . obtain⟨j,l,C⟩:=r _ _ h;rcases q _ _ l with p|⟨p,F⟩
      . rw [h]at p;exact .inr (by rw [l,p])
      . exact .inr (by rw [l];congr 1;omega)
 unfold kI;by_cases h:a.t∈O
 . rw [if_pos h];exact f K (fun _ _=>rfl) (fun _ _ h=>.inl h) (fun v k h=>⟨k,h,by omega⟩) (.inl h)
 . rw [if_neg h];have upd:(∀k,K a.t=some k->((D a.s+a.w:Nat):Int)<=k)->Dj B s N O D (dw K a.t (some ((D a.s+a.w:Nat):Int))) ex':=fun g=>by
    refine f _ (fun v c=>?_) (fun v k c=>?_) (fun v k c=>?_) (.inr ⟨((D a.s+a.w:Nat):Int),by unfold dw;rw [if_pos rfl],by omega⟩)
    . unfold dw;rw [if_neg (fun e=>h (by subst e;exact c))]
    . unfold dw at c
      split at c
      . rename_i e;cases c;exact .inr ⟨e,rfl⟩
      . exact .inl c
    . unfold dw;by_cases e:v=a.t
      . rw [if_pos e];subst e;exact⟨_,rfl,g k c⟩
      . rw [if_neg e];exact⟨k,c,by omega⟩
   cases g:K a.t with
   |none=>simp only [];exact upd (fun k e=>by rw [g]at e;cases e)
   | some k=>
     simp only []
     split
     . rename_i hle;exact f K (fun _ _=>rfl) (fun _ _ h=>.inl h) (fun v k h=>⟨k,h,by omega⟩) (.inr ⟨k,g,by omega⟩)
     . rename_i hle;exact upd (fun j e=>by rw [g]at e;cases e;omega)
theorem Dj.done(d:Dj B s N O D K (fun _=>False))(f: ∀v,K v=none)(g:N<=12)(v:Nat):IsD B s v (D v):=by
 have j:=Yw cg (Xk d.len g);have:=hU;have:=kK;by_cases h:v∈O
 . obtain⟨a,b,c⟩:=d.i2 v h;exact .inl ⟨by omega,a,b⟩
 . refine .inr ⟨d.i2f v h,fun w i=>?_⟩;rcases d.front i with e|⟨y,k,e,_⟩
   . exact h e
   . rw [f]at e;cases e
end
theorem jU{A:List Arc}{f:Arc->Nat}:i∈outs A f j v↔i<j/\f (A.getD i default)=v:=by unfold outs;rw [List.mem_filter,Yu,decide_eq_true_eq]
def dG(a:Arc):Arc:=⟨a.t,a.s,a.w⟩
structure Ls(B:List Arc)(s N:Nat)(l:Nat->Nat):Prop where
 le: ∀v,l v<=FAR
 wk: ∀v,l v=FAR\/Wk B s v (l v)
 s0:l s=0
def d9(l:Nat->Nat)(v x:Nat):Nat->Nat:=fun u=>if u=v then x else l u
def EM(l:List (Int×Value×Nat)):List (Value×Value×Nat):=l.map fun p=>(.int .i64 p.1,p.2.1,p.2.2)
def dY(f:Int->Option Value)(x:Int)(v:Option Value):Int->Option Value:=fun y=>if y=x then v else f y
def dQ(a:List (Value×Value×Nat))(c:Nat)(f:Int->Option Value):Prop:=
 ∃l,a=EM l/\(l.map XO).Nodup/\(l.map fun p=>p.2.2).Nodup/\(∀p∈l,p.2.2<c)/\ ∀x v,f x=some v↔ ∃n,(x,v,n)∈l
theorem ww{y:Int}:cD (.int .i64 x) (.int .i64 y)=some (decide (x=y)):=by show some (jh x y)=_;congr 1;rw [px]
theorem BU{l:List (Int×Value×Nat)}(a:(l.map XO).Nodup){v:Value}(h:(x,v,n)∈l):bF (.int .i64 x) (EM l)=some (some (v,n)):=by
 induction l with
 |nil=>cases h
 | cons p l b=>
   obtain⟨y,w,m⟩:=p;show(match cD (.int .i64 x) (.int .i64 y)with|none=>none|some true=>some (some (w,m))|some false=>bF (.int .i64 x) (EM l))=_;rw [ww];grind
theorem find_miss{l:List (Int×Value×Nat)}(h:x∉l.map XO):bF (.int .i64 x) (EM l)=some none:=by
 induction l with
 |nil=>rfl| cons p l a=>
   obtain⟨y,w,m⟩:=p;show(match cD (.int .i64 x) (.int .i64 y)with|none=>none|some true=>some (some (w,m))|some false=>bF (.int .i64 x) (EM l))=_;simp_all[ww,XJ,XS,not_or,decide_eq_false]
theorem vh{l:List (Int×Value×Nat)}(c:(l.map XO).Nodup){v:Value}(h:(x,v,n)∈l):
 ∃a b,l=a++(x,v,n)::b/\(∀w,kQ (.int .i64 x) w (EM l)=EM (a++(x,w,n)::b))/\mK (.int .i64 x) (EM l)=EM (a++b):=by
 induction l with
 |nil=>cases h
 | cons p l d=>
   obtain⟨y,w,m⟩:=p;rw [XJ,X6]at c;by_cases e:x=y
   . subst e;rcases List.mem_cons.1 h with h|h
     . cases h;refine⟨[],l,rfl,fun u=>?_,?_⟩
       . show(match cD (.int .i64 x) (.int .i64 x)with|some true=>_|_=>_)=_;rw [ww,decide_eq_true rfl];rfl
       . show(match cD (.int .i64 x) (.int .i64 x)with|some true=>_|_=>_)=_;rw [ww,decide_eq_true rfl];rfl
     grind
   . rcases List.mem_cons.1 h with h|h
     . grind
     grind[cD,kQ,EM,ww,decide_eq_false,mK]
theorem xy{a b:List (Int×Value×Nat)}{v:Value}(c:((a++(x,v,n)::b).map fun p=>p.2.2).Nodup):iF n w (EM (a++(x,v,n)::b))=some (EM (a++(x,w,n)::b)):=by
 induction a with
 | nil=>
   show(bif X7 n n then _ else _)=_;rw [Yl];rfl
 | cons p a d=>
   obtain⟨y,u,m⟩:=p;rw [List.cons_append,XJ,X6]at c;grind[X7,Ya,absurd,iF,EM]
theorem fst_app{a b:List (Int×Value×Nat)}{v:Value}:(a++(x,v,n)::b).map XO=a.map XO++x::b.map XO:=by simp
section
variable{es:List (Value×Value×Nat)}{c:Nat}{f:Int->Option Value}{x:Int}
theorem om:dQ [] 0 (fun _=>none):=⟨[],rfl,.nil,.nil,fun _ h=>(by cases h),fun x v=>⟨fun h=>(by cases h),fun⟨_,h⟩=>(by cases h)⟩⟩
theorem dQ.hit(h:dQ es c f){v:Value}(hf:f x=some v): ∃n,bF (.int .i64 x) es=some (some (v,n)):=by obtain⟨l,rfl,a,b,d,e⟩:=h;grind[hf,BU]
theorem dQ.miss(h:dQ es c f)(hf:f x=none):bF (.int .i64 x) es=some none:=by obtain⟨l,rfl,e,g,i,a⟩:=h;refine find_miss fun b=>?_;obtain⟨⟨y,v,n⟩,d,rfl⟩:=List.mem_map.1 b;have:=(a y v).2 ⟨n,d⟩;grind
theorem yd{a b:List (Int×Value×Nat)}{v:Value}(e:((a++(x,v,n)::b).map XO).Nodup)(j:((a++(x,v,n)::b).map fun p=>p.2.2).Nodup)(g: ∀p∈a++(x,v,n)::b,p.2.2<c)(k: ∀x' v',f x'=some v'↔ ∃h,(x',v',h)∈a++(x,v,n)::b):dQ (EM (a++(x,w,n)::b)) c (dY f x (some w)):=by
 have i:=e;rw [fst_app,XI]at i;refine⟨_,rfl,by grind,by grind,fun p d=>?_,fun y u=>?_⟩
 . rcases List.mem_append.1 d with d|d
   . grind
   . rcases List.mem_cons.1 d with rfl|d
     . exact g (x,v,n) (by simp)
     grind
 . unfold dY;grind
theorem xL{l:List (Int×Value×Nat)}(g:(l.map XO).Nodup)(h:(l.map fun p=>p.2.2).Nodup)(i: ∀p∈l,p.2.2<c)(b: ∀x' v',f x'=some v'↔ ∃d,(x',v',d)∈l)(hf:f x=none):dQ (EM (l++[(x,w,c)])) (c+1) (dY f x (some w)):=by
 have j:x∉l.map XO:=fun e=>by obtain⟨⟨y,v,n⟩,a,rfl⟩:=List.mem_map.1 e;have:=(b y v).2 ⟨n,a⟩;grind
 refine⟨_,rfl,?_,?_,fun p a=>?_,fun y u=>?_⟩
 . grind
 . grind
 . grind
 . unfold dY;grind
theorem em_app(l:List (Int×Value×Nat))(v:Value)(n:Nat):EM l++[(.int .i64 x,v,n)]=EM (l++[(x,v,n)]):=by unfold EM;grind
theorem dQ.put(h:dQ es c f)(v:Value): ∃es' c',(match bF (.int .i64 x) es with|none=>none|some (some _)=>some (kQ (.int .i64 x) v es,c)|some none=>some (es++[(.int .i64 x,v,c)],c+1))=some (es',c')/\dQ es' c' (dY f x (some v)):=by
 cases hf:f x with
 | none=>
   rw [h.miss hf];obtain⟨l,rfl,d,i,j,g⟩:=h;exact⟨_,_,rfl,by rw [em_app];exact xL d i j g hf⟩
 | some w=>
   obtain⟨n,e⟩:=h.hit hf;rw [e];obtain⟨l,rfl,d,i,j,g⟩:=h;obtain⟨m,k⟩:=(g x w).1 hf;obtain⟨a,b,rfl,o,_⟩:=vh d k;exact⟨_,_,rfl,by rw [o];exact yd d i j g⟩
theorem del_miss{l:List (Int×Value×Nat)}(h:x∉l.map XO):mK (.int .i64 x) (EM l)=EM l:=by
 induction l with
 |nil=>rfl| cons p l a=>
   obtain⟨y,w,m⟩:=p;simp only [XJ,XS,not_or]at h;grind[cD,mK,EM,ww,decide_eq_false]
theorem dQ.del(h:dQ es c f):dQ (mK (.int .i64 x) es) c (dY f x none):=by
 obtain⟨l,rfl,d,o,g,i⟩:=h;cases hf:f x with
 | none=>
   have q:x∉l.map XO:=fun e=>(by obtain⟨⟨y,v,n⟩,j,rfl⟩:=List.mem_map.1 e;have:=(i y v).2 ⟨n,j⟩;grind);rw [del_miss q];refine⟨l,rfl,d,o,g,fun y u=>?_⟩;unfold dY;grind
 | some w=>
   obtain⟨m,e⟩:=(i x w).1 hf;obtain⟨a,b,rfl,_,r⟩:=vh d e;rw [r];have k:=d;rw [fst_app,XI]at k;obtain⟨t,s,z⟩:=k;rw [X6]at s;refine⟨a++b,rfl,?_,?_,fun p j=>g p ?_,fun y u=>?_⟩
   . grind
   . grind
   . grind
   . unfold dY;grind
theorem dQ.ent(h:dQ es c f)(z:Value): ∃d q n,(match bF (.int .i64 x) es with|none=>none|some (some (v,n))=>some (kQ (.int .i64 x) v es,c,v,n)|some none=>some (es++[(.int .i64 x,z,c)],c+1,z,c))=some (d,q,(f x).getD z,n)/\dQ d q (dY f x (some ((f x).getD z)))/\
 ∀w,∃es2,iF n w d=some es2/\dQ es2 q (dY f x (some w)):=by
 cases hf:f x with
 | none=>
   rw [h.miss hf];obtain⟨l,rfl,g,i,o,j⟩:=h;have k:=xL (w:=z) g i o j hf;refine⟨_,_,_,rfl,by rw [em_app];exact k,fun w=>?_⟩;rw [em_app];obtain⟨u,e,y,A,B,C⟩:=k;have t:((l++(x,z,c)::[]).map fun p=>p.2.2).Nodup:=(by grind);exact⟨_,xy t,xL g i o j hf⟩
 | some v=>
   obtain⟨l,rfl,g,i,o,j⟩:=h;obtain⟨m,r⟩:=(j x v).1 hf;rw [BU g r];obtain⟨a,b,rfl,s,_⟩:=vh g r;refine⟨_,_,_,rfl,by rw [s];exact yd g i o j,fun w=>?_⟩;rw [s];exact⟨_,xy (by simpa using i),yd g i o j⟩
end
section
variable{M:Nat->Prop}{h0 h:Hp}{L:List (Nat×Ob)}{G:List GL}{E:Env}{t kt el:TypeId}{b c:Nat}{es:List (Value×Value×Nat)}{f:Int->Option Value}{x:Int}
theorem tg(a:E.und kt=some (.int .i64)):bK E kt (.int .i64 x)=true:=by simp only [bK,a];rfl
theorem nY(a:E.und t=some (.map kt el))(d:E.und kt=some (.int .i64))(g:E.zeroV el=some z)(i:h.get b=some (.map es c))(m:dQ es c f):cM E h t (.map (some b)) (.int .i64 x) true=some (.tuple #[(f x).getD z,.bool (f x).isSome]):=by
 simp only [cM,a,tg d,cond_true,i];cases hf:f x with
 |none=>rw [m.miss hf];simp [g]|some v=>obtain⟨n,e⟩:=m.hit hf;rw [e];simp
theorem lJ(a:E.und t=some (.map kt el))(d:E.und kt=some (.int .i64))(g:E.zeroV el=some z)(i:h.get b=some (.map es c))(m:dQ es c f):cM E h t (.map (some b)) (.int .i64 x) false=some ((f x).getD z):=by
 simp only [cM,a,tg d,cond_true,i];cases hf:f x with
 |none=>rw [m.miss hf];simp [g]|some v=>obtain⟨n,e⟩:=m.hit hf;rw [e];simp
theorem oS{x:Blk}{es':List (Value×Value×Nat)}{c':Nat}(a:h.get b=some x):(h.put b (.map es' c')).get b=some (.map es' c'):=by rw [Hp.get_put,if_pos ⟨rfl,by rw [a];rfl⟩]
theorem St.mputI(S:St M h0 h L G)(a:L[i]? =some (b,.map es c))(e:E.und t=some (.map kt el))(g:E.und kt=some (.int .i64))(m:dQ es c f)(v:Value):
 ∃h',ey E h t (.map (some b)) (.int .i64 x) v=some h'/\Mo (· =b) h h'/\ ∃es' c',dQ es' c' (dY f x (some v))/\St M h0 h' (L.set i (b,.map es' c')) G:=by
 have d:h.get b=some (.map es c):=(S.own _ (Xl a)).2;obtain⟨es',c',k,j⟩:=m.put (x:=x) v;refine⟨h.put b (.map es' c'),?_,(Mo.refl (M:=(· =b)) S.ok).put (.inr rfl) _,es',c',j,S.put a (o':=.map es' c') (oS d)⟩;simp only [ey,jV,e,tg g,cond_true,d];grind
theorem St.mdelI(S:St M h0 h L G)(a:L[i]? =some (b,.map es c))(g:E.und t=some (.map kt el))(j:E.und kt=some (.int .i64))(m:dQ es c f):
 ∃h',oJ E h t (.map (some b)) (.int .i64 x)=some h'/\Mo (· =b) h h'/\ ∃es' c',dQ es' c' (dY f x none)/\St M h0 h' (L.set i (b,.map es' c')) G:=by
 have d:h.get b=some (.map es c):=(S.own _ (Xl a)).2;refine⟨h.put b (.map (mK (.int .i64 x) es) c),?_,(Mo.refl (M:=(· =b)) S.ok).put (.inr rfl) _,_,c,m.del (x:=x),S.put a (o':=.map _ c) (oS d)⟩;simp only [oJ,jV,g,tg j,cond_true,d];cases hf:f x with
 |none=>rw [m.miss hf]|some v=>obtain⟨n,e⟩:=m.hit hf;rw [e]
theorem St.mentI(S:St M h0 h L G)(a:L[i]? =some (b,.map es c))(e:E.und t=some (.map kt el))(g:E.und kt=some (.int .i64))(j:E.zeroV el=some z)(m:dQ es c f):
 ∃ h' n,jK E h t (.map (some b)) (.int .i64 x)=some (h',.tuple #[(f x).getD z,.int .i64 (YF n)])/\Mo (· =b) h h'/\ ∃es' c',dQ es' c' (dY f x (some ((f x).getD z)))/\St M h0 h' (L.set i (b,.map es' c')) G/\
   ∀w,∃es2,iF n w es'=some es2/\dQ es2 c' (dY f x (some w)):=by
 have d:h.get b=some (.map es c):=(S.own _ (Xl a)).2;obtain⟨es',c',n,o,k,l⟩:=m.ent (x:=x) z;refine⟨h.put b (.map es' c'),n,?_,(Mo.refl (M:=(· =b)) S.ok).put (.inr rfl) _,es',c',k,S.put a (o':=.map es' c') (oS d),l⟩;simp only [jK,jV,e,tg g,cond_true,d,j];grind
theorem St.mstoreI(S:St M h0 h L G)(a:L[i]? =some (b,.map es c)){es2:List (Value×Value×Nat)}(e:iF n w es=some es2):
 ∃h',nT h (.map (some b)) (.int .i64 (YF n)) w=some h'/\Mo (· =b) h h'/\St M h0 h' (L.set i (b,.map es2 c)) G:=by
 have d:h.get b=some (.map es c):=(S.own _ (Xl a)).2;refine⟨h.put b (.map es2 c),?_,(Mo.refl (M:=(· =b)) S.ok).put (.inr rfl) _,S.put a (o':=.map es2 c) (oS d)⟩;simp only [nT,d,jt,e]
end
def nX(x:Hd):List Value:=[.int .i64 x.id,.int .i64 x.key]
theorem mR(x:Hd):(nX x).length=2:=rfl
structure fu(cs:List Value)(cap:Nat)(l:List Hd):Prop where
 len:cs.length=cap*2
 le:l.length<=cap
 at0: ∀i,i<l.length->cs[i*2]? =some (.int .i64 (l.getD i default).id)/\cs[i*2+1]? =some (.int .i64 (l.getD i default).key)
def mM(f:Int->Option Value)(l:List Hd):Prop:=(∀i,i<l.length->f (l.getD i default).id=some (.int .i64 i))/\ ∀x v,f x=some v-> ∃i,i<l.length/\x=(l.getD i default).id
section
variable{h:Hp}{bl cap i:Nat}{cs:List Value}{l:List Hd}{md:Nat}
theorem fu.ld0(c:fu cs cap l)(r:Row h bl cs md)(a:i<l.length):h.load bl (i*2) 1=some [.int .i64 (l.getD i default).id]:=r.load1 (c.at0 i a).1
theorem fu.ld1(c:fu cs cap l)(r:Row h bl cs md)(a:i<l.length):h.load bl (i*2+1) 1=some [.int .i64 (l.getD i default).key]:=r.load1 (c.at0 i a).2
theorem fu.ld2(c:fu cs cap l)(r:Row h bl cs md)(a:i<l.length):h.load bl (i*2) 2=some [.int .i64 (l.getD i default).id,.int .i64 (l.getD i default).key]:=by have d:=(c.at0 i a).1;have b:=(c.at0 i a).2;have e:=(List.getElem?_eq_some_iff.1 b).1;rw [r.load (by omega)];grind[Yj,List.getElem?_eq_some_iff]
theorem xX{x y:Value}(a:i*2+2<=cs.length)(j:Nat):(lay cs (i*2) [x,y])[j]? =if j=i*2 then some x else if j=i*2+1 then some y else cs[j]? :=by rw [lS (by simpa using a)];grind
theorem fu.set(c:fu cs cap l)(d:i<l.length)(x:Hd):fu (lay cs (i*2) [.int .i64 x.id,.int .i64 x.key]) cap (l.set i x):=by
 have f:=c.len;have hle:=c.le;have a:i*2+2<=cs.length:=by omega
 refine⟨by grind[qN],by grind,fun j b=>?_⟩;rw [Xs]at b;rw [xX a,xX a,rq];by_cases e:i=j
 . grind
 . rw [if_neg (by omega),if_neg (by omega),if_neg (by omega),if_neg (by omega),if_neg (by omega)];exact c.at0 j b
theorem fu.setKey(c:fu cs cap l)(a:i<l.length)(k:Int):fu (lay cs (i*2+1) [.int .i64 k]) cap (l.set i ⟨(l.getD i default).id,k⟩):=by
 have d:=c.len;have hle:=c.le;have e:lay cs (i*2+1) [.int .i64 k]=lay cs (i*2) [.int .i64 (l.getD i default).id,.int .i64 k]:=by
  refine Xt fun j=>?_;rw [xX (by omega),lS (by simp;omega)];simp only [Ym,Ye];by_cases b:j=i*2
  . subst b;rw [if_neg (by omega),if_pos rfl];exact(c.at0 i a).1
  grind
 rw [e];exact c.set a ⟨(l.getD i default).id,k⟩
end
theorem set_sw(l:List Hd)(i k:Nat):(l.set i (l.getD k default)).set k (l.getD i default)=sw l i k:=rfl
theorem mM.inj{f:Int->Option Value}(h:mM f l)(a:i<l.length)(b:j<l.length)(e:(l.getD i default).id=(l.getD j default).id):i=j:=by have c:=h.1 i a;have d:=h.1 j b;grind
theorem mM.swap{f:Int->Option Value}(h:mM f l)(a:i<l.length)(c:k<l.length):mM (dY (dY f ((sw l i k).getD i default).id (some (.int .i64 i))) ((sw l i k).getD k default).id (some (.int .i64 k))) (sw l i k):=by
 have o:=jX l a c i;have p:=jX l a c k;rw [if_pos rfl]at p;refine⟨fun j b=>?_,fun x v n=>?_⟩
 . rw [jr]at b;have d:=jX l a c j;unfold dY;by_cases g:j=k
   . grind
   . rw [if_neg g]at d;by_cases m:j=i
     . subst m;rw [if_neg,if_pos rfl];rw [if_neg g,if_pos rfl]at o;rw [o,p];intro e;exact g (h.inj c a (by omega)).symm
     . rw [if_neg m]at d;rw [if_neg,if_neg]
       . rw [d];exact h.1 j b
       . rw [d,o];intro e
         split at e
         . exact m (h.inj b a (by omega))
         . rename_i q;rw [if_pos rfl]at e;exact g (h.inj b c (by omega))
       . rw [d,p];intro e;exact m (h.inj b a (by omega))
 . unfold dY at n;by_cases g:x=((sw l i k).getD k default).id
   . grind[jr]
   . rw [if_neg g]at n;by_cases m:x=((sw l i k).getD i default).id
     . grind[jr]
     . rw [if_neg m]at n;obtain⟨j,b,e⟩:=h.2 x v n;refine⟨j,by rw [jr];exact b,?_⟩;have d:=jX l a c j;grind
structure ii(h:Hp)(bh bl bm cap:Nat)(n:Int)(l:List Hd):Prop where
 row:Row h bh [.slice (some ⟨bl,0,some 2⟩) l.length cap,.map (some bm),.int .i64 n] 1
 ex: ∃cs es c f,Row h bl cs 1/\h.get bm=some (.map es c)/\fu cs cap l/\dQ es c f/\mM f l
 ne:bh≠bl/\bh≠bm/\bl≠bm
theorem ii.mo{e:Nat}{n:Int}(r:ii h e i j cap n l)(g:Mo M h h')(m: ¬M e)(p: ¬M i)(q: ¬M j):ii h' e i j cap n l:=by obtain⟨s,k,c,f,a,b,d⟩:=r.ex;exact⟨g.has (o:=.row _ 1) r.row m,⟨s,k,c,f,g.has (o:=.row _ 1) a p,g.has (o:=.map k c) b q,d⟩,r.ne⟩
theorem ii.mo1{n:Int}(r:ii h a b d cap n l)(g:Mo M h h')(e: ∀c,c=a\/c=b\/c=d-> ¬M c):ii h' a b d cap n l:=
 r.mo g (e _ (.inl rfl)) (e _ (.inr (.inl rfl))) (e _ (.inr (.inr rfl)))
theorem ii.lt{h:Hp}(e:OZ h){g i j cap:Nat}{n:Int}{l:List Hd}(r:ii h g i j cap n l): ∀c,c=g\/c=i\/c=j->c<h.n:=by
 obtain⟨k,m,c,f,a,b,d⟩:=r.ex;rintro c (rfl|rfl|rfl)
 . exact r.row.lt e
 . exact a.lt e
 . exact iG e b
theorem ii.gr{n:Int}(r:ii h a b c cap n l)(g:Gr h h'):ii h' a b c cap n l:=r.mo (M:=NoM) g.fr (fun h=>h) (fun h=>h) (fun h=>h)
theorem St.init2(b:OZ h)(c:Has h b1 o1)(d:Has h b2 o2)(a:b1≠b2)(m1:M b1)(m2:M b2):St M h h [(b1,o1),(b2,o2)] []:=by refine⟨Mo.refl b,fun p e=>?_,fun _ h=>(by cases h),by simp [keys,a]⟩;grind
theorem St.init3(b:OZ h){o3:Ob}(f:Has h b1 o1)(g:Has h b2 o2)(i:Has h a o3)(c:b1≠b2)(d:b1≠a)(e:b2≠a)(m1:M b1)(m2:M b2)(m3:M a):St M h h [(b1,o1),(b2,o2),(a,o3)] []:=by refine⟨Mo.refl b,fun p j=>?_,fun _ h=>(by cases h),by simp [keys,c,d,e]⟩;grind
def nZ(a b:Int):Int:=if a<b then-1 else if b<a then 1 else 0
theorem Cd(b:OZ h0){a:Int}:aQ zM 189 [.int .i64 a] h0 (.bool false):=by have S:=Si b;refine erA (n:=6) (rs:=[.tmp 2]) Tryz.e189 ?_;simp only [BZ,aa,seval];exact S.gr
theorem nanI_ok(b:OZ h0){a:Int}:aQ zM 287 [.int .i64 a] h0 (.bool false):=by have S:=Si b;refine erA (n:=6) (rs:=[.tmp 2]) Tryz.e287 ?_;simp only [BZ,aa,seval];exact S.gr
theorem CE(e:OZ h0){a b:Int}:aQ zM 111 [.int .i64 a,.int .i64 b] h0 (.int .i64 (nZ a b)):=by
 have S:=Si e;unfold nZ;refine erA (n:=20) (rs:=[.tmp 4]) Tryz.e111 ?_;simp only [BZ,seval];refine ae (Cd S.ok) ?_;intro h g;replace S:=S.call g;simp only [BZ,seval];refine ae (Cd S.ok) ?_;intro h g;replace S:=S.call g;by_cases c:a<b
 . simp only [BZ,aa,c,seval];exact S.gr
 . by_cases d:b<a
   . simp only [BZ,aa,c,d,seval];exact S.gr
   . simp only [BZ,aa,c,d,seval];exact S.gr
theorem cmpInt_ok(e:OZ h0){a b:Int}:aQ zM 283 [.int .i64 a,.int .i64 b] h0 (.int .i64 (nZ a b)):=by
 have S:=Si e;unfold nZ;refine erA (n:=20) (rs:=[.tmp 4]) Tryz.e283 ?_;simp only [BZ,seval];refine ae (nanI_ok S.ok) ?_;intro h g;replace S:=S.call g;simp only [BZ,seval];refine ae (nanI_ok S.ok) ?_;intro h g;replace S:=S.call g;by_cases c:a<b
 . simp only [BZ,aa,c,seval];exact S.gr
 . by_cases d:b<a
   . simp only [BZ,aa,c,d,seval];exact S.gr
   . simp only [BZ,aa,c,d,seval];exact S.gr
theorem or2_ok(p:OZ h0){v:Value}{a b:Int}(g:aw h0 1 (encI .i64) v [a,b]):aQ zM 282 [v] h0 (.int .i64 (if a=0 then b else a)):=by
 have S:=Si p;obtain⟨h,j,q,e⟩:=g.ix (kd:=.i64) (bR .i64) (i:=0) (by simp);obtain⟨k,l,r,f⟩:=g.ix (kd:=.i64) (bR .i64) (i:=1) (by simp);have c:nw (some 1) v (.int .i64 0)=some (.pointer (some ⟨h,j,none⟩)):=q;have d:nw (some 1) v (.int .i64 1)=some (.pointer (some ⟨k,l,none⟩)):=r;replace e:h0.load h j 1=some [.int .i64 a]:=e;replace f:h0.load k l 1=some [.int .i64 b]:=f;have s:am .i64 1=1:=rfl;have t:am .i64 2=2:=rfl;refine erA (n:=18) (rs:=[.tmp 2]) Tryz.e282 ?_;simp only [BZ,Xb,g.lenq,seval];rw [cE];by_cases m:a=0
 . simp only [BZ,c,e,m,s,seval];rw [cE];by_cases o:b=0
   . simp only [BZ,d,f,o,t,seval];rw [cE];simp only [BZ,aa,seval];exact S.gr
   . simp only [BZ,aa,d,f,o,seval];exact S.gr
 . simp only [BZ,aa,c,e,m,seval];exact S.gr
theorem Dm(t:OZ h0){w B:Nat}{n:Int}(R:ii h0 u w B cap n l)(r:i<l.length)(s:k<l.length):aQ zM 273 [ptrTo u,.int .i64 i,.int .i64 k] h0 (.bool (decide (hlt (l.getD i default) (l.getD k default)))):=by
 have S:=Si t;obtain⟨F,G,c,f,d,H,C,I,J⟩:=R.ex;have a:=R.row.load1 (o:=0) rfl;have e:=C.ld0 d r;have j:=C.ld1 d r;have m:=C.ld0 d s;have p:=C.ld1 d s;refine erA (n:=44) (rs:=[.tmp 6]) Tryz.e273 ?_;simp only [BZ];refine ao (av rfl) (q:=17179869184) (ps:=[(16,32),(16,28),(16,24),(16,20)]) (by kernel_rfl) ?_;simp only [BZ,cls,a,r,s,j,p,seval];refine bj (CE S.ok) ?_;intro h g;replace S:=S.call g;replace a:=g.load a;replace e:=g.load e;replace j:=g.load j;replace m:=g.load m;replace p:=g.load p;have x:leaves _ _ w=true:=ag g (d.lt t);have y:leaves _ _ u=true:=ag g (R.row.lt t);clear g;simp only [BZ,cls,a,r,s,e,m,seval];refine bj (cmpInt_ok S.ok) ?_;intro K g;replace S:=S.call g;replace a:=g.load a;replace e:=g.load e;replace j:=g.load j;replace m:=g.load m;replace p:=g.load p;clear g;simp only [BZ,cls,seval];refine cV (bZ (by exact Tryz.t41.1) (by exact Tryz.e3E) (by decide) (by rfl)) S ?_;clear S;intro h v S z A;simp only [LC,bJ,cd,ac,Xm,Xi,Xj,Xp,seval]at S;simp only [BZ,cls,seval];have D:aw h 1 (encI .i64) (.slice (some ⟨v,0,none⟩) 2 2) [nZ (l.getD i default).key (l.getD k default).key,nZ (l.getD i default).id (l.getD k default).id]:=.inr ⟨v,0,none,2,rfl,XD _,S.lds (b:=v) (o:=0) (n:=2*1) m0 (lbt rfl)⟩;refine bj (or2_ok S.ok D) ?_;intro L g;replace S:=S.call g;simp only [BZ,cls,aa,seval];refine⟨by simp only [aI,aO,aF,aK,aH,ne_eq,not_false_eq_true,aU,aY,aN,aJ,bw,bN,aD,XA,ah,aq x,aq y,an x,an y,seval],?_⟩;have E:decide ((if nZ (l.getD i default).key (l.getD k default).key=0 then nZ (l.getD i default).id (l.getD k default).id else nZ (l.getD i default).key (l.getD k default).key)<0)=decide (hlt (l.getD i default) (l.getD k default)):=by
  congr 1;rw [eq_iff_iff];unfold nZ hlt
  repeat' split
  all_goals omega
 exact⟨by rw [E],S.gr⟩
theorem wY(Z:OZ h0){g:Nat}{n:Int}(R:ii h0 u d g cap n l)(t:i<l.length)(p:k<l.length):Ret zM 250 [ptrTo u,.int .i64 i,.int .i64 k] h0 fun v h'=>Mo (fun c=>c=d\/c=g) h0 h'/\ii h' u d g cap n (sw l i k):=by
 obtain⟨V,es,c,f,F,hm,C,MI,IF⟩:=R.ex;have S:=St.init2 (M:=fun c=>c=d\/c=g) Z (o1:=.row V 1) (o2:=.map es c) F hm R.ne.2.2 (.inl rfl) (.inr rfl);have E: ¬(u=d\/u=g):=fun h=>h.elim R.ne.1 R.ne.2.1;have G:=R.row.load1 (o:=0) rfl;have r1:=R.row.load1 (o:=1) rfl;have i2:=C.ld2 F t;have k2:=C.ld2 F p;have W:=C.len;have ad:=C.le;refine erA (n:=62) (rs:=[]) Tryz.e250 ?_;simp only [BZ];refine ao (av rfl) (q:=0) (ps:=[]) (by kernel_rfl) ?_;simp only [BZ,cls,G,t,p,i2,k2,seval];refine cJ (S.store (i:=0) rfl Tryz.t330.2.1 (by intro x e;cases e) rfl rfl (by omega) ono) ?_;clear S;rintro h ⟨S,r⟩;clear r;have H:=C.set t (l.getD k default);simp only [LC,ac]at S;have j:=S.old G E;simp only [BZ,cls,p,seval];generalize lay V (i*2) _=I at S H;have af:=H.len;refine cJ (S.store (i:=0) (off:=k*2) rfl Tryz.t330.2.1 (by intro x e;cases e) rfl rfl (by omega) ono) ?_;clear S;rintro h ⟨S,r⟩;clear r;have y:=H.set (i:=k) (by rw [Xs];exact p) (l.getD i default);simp only [LC,ac]at S;generalize lay I (k*2) _=s at S y;rw [set_sw]at y;clear j;have j:=S.old G E;have A:=S.old r1 E;have J:i<(sw l i k).length:=by rw [jr];exact t
 have K:k<(sw l i k).length:=by rw [jr];exact p
 have X:=y.ld0 (S.row m0) J;have Y:=y.ld0 (S.row m0) K;simp only [BZ,seval];refine ao (av rfl) (q:=0) (ps:=[]) (by kernel_rfl) ?_;simp only [BZ,cls,j,A,t,p,X,Y,seval];refine lu (P:=fun h' v=> ∃n a m,v=.tuple #[(f ((sw l i k).getD i default).id).getD (.int .i64 0),.int .i64 (YF n)]/\St (fun c=>c=d\/c=g) h0 h' [(d,.row s 1),(g,.map a m)] []/\ ∀w,∃b,iF n w a=some b/\dQ b m (dY f ((sw l i k).getD i default).id (some w))) ?_ ?_
 . obtain⟨h',n,L,_,a,m,_,e4,e5⟩:=S.mentI (i:=1) (x:=(((sw l i k).getD i default).id:Int)) rfl Tryz.t230.1 Tryz.t3.1 (z:=.int .i64 0) (by kernel_rfl) MI;exact⟨h',_,L,n,a,m,rfl,e4,e5⟩
 clear S X Y j A;rintro h v ⟨s1,al,c1,rfl,S,N⟩;obtain⟨b,O,Q⟩:=N (.int .i64 i);simp only [BZ,cls,Yx,seval];refine cJ (S.mstoreI (i:=1) rfl O) ?_;clear S;rintro h ⟨r,S⟩;clear r;simp only [LC]at S;simp only [BZ,cls,seval];refine lu (P:=fun h' v=> ∃n a m,v=.tuple #[(dY f ((sw l i k).getD i default).id (some (.int .i64 i)) ((sw l i k).getD k default).id).getD (.int .i64 0),.int .i64 (YF n)]/\St (fun c=>c=d\/c=g) h0 h' [(d,.row s 1),(g,.map a m)] []/\ ∀w,∃b,iF n w a=some b/\dQ b m (dY (dY f ((sw l i k).getD i default).id (some (.int .i64 i))) ((sw l i k).getD k default).id (some w))) ?_ ?_
 . obtain⟨h',n,L,_,a,m,_,e4,e5⟩:=S.mentI (i:=1) (x:=(((sw l i k).getD k default).id:Int)) rfl Tryz.t230.1 Tryz.t3.1 (z:=.int .i64 0) (by kernel_rfl) Q;exact⟨h',_,L,n,a,m,rfl,e4,e5⟩
 clear S;rintro h v ⟨s2,ax,c3,rfl,S,B⟩;obtain⟨T,D,U⟩:=B (.int .i64 k);simp only [BZ,cls,Yx,seval];refine cJ (S.mstoreI (i:=1) rfl D) ?_;clear S;rintro h ⟨r,S⟩;clear r;simp only [LC]at S;simp only [BZ,seval];refine⟨S.fr,?_,⟨s,T,c3,_,S.row m0,(S.own _ m1).2,y,U,IF.swap t p⟩,R.ne⟩;rw [jr];exact S.fr.has (o:=.row _ 1) R.row E
theorem up_ok(t:OZ h0){e:Nat}{n:Int}(R:ii h0 b d e cap n l)(r:i<l.length)(x:l.length<1000000)(U:ue l i):Ret zM 253 [ptrTo b,.int .i64 i] h0 fun v h'=>Mo (fun c=>c=d\/c=e) h0 h'/\ ∃l',ii h' b d e cap n l'/\l'.Perm l/\oR l':=by
 refine erA (n:=23) (rs:=[]) Tryz.e253 ?_;simp only [BZ];refine aX (fun(i:Nat) m h=>i<l.length/\Mo (fun c=>c=d\/c=e) h0 h/\ ∃l',ii h b d e cap n l'/\l'.Perm l/\ue l' i/\m 0=ptrTo b/\m 1=.int .i64 i) (fun i=>i) ?_ i _ _ ?_
 . intro i u m h ⟨r,a,l',R,pm,U,r0,r1⟩;have s:=pm.length_eq;by_cases o:i=0
   . subst o;simp only [BZ,Xb,r1,seval];exact⟨a,l',R,pm,up_done U (.inl rfl)⟩
   . have w:(0:Int)<(i:Int):=(by omega);have p:am .i64 ((i:Int)-1)=((i-1:Nat):Int):=(by rw [wrap64]<;>omega);have q:am .i64 (((i-1:Nat):Int).tdiv 4)=(((i-1)/4:Nat):Int):=(by rw [Int.tdiv_eq_ediv_of_nonneg (by omega),show(((i-1:Nat):Int)/4)=(((i-1)/4:Nat):Int) by omega,wrap64]<;>omega);simp only [BZ,r0,r1,w,p,q,mV (n:=4) (by decide),seval];refine ae (Dm a.ok R (i:=i) (k:=(i-1)/4) (by omega) (by omega)) ?_;intro h g;replace R:=R.gr g;replace a:=a.trans (M':=NoM) g.fr (fun _ h=>h.elim);clear g;by_cases j:hlt (l'.getD i default) (l'.getD ((i-1)/4) default)
     . simp only [BZ,r0,r1,p,q,mV (n:=4) (by decide),j,seval];refine step_ret (wY a.ok R (i:=i) (k:=(i-1)/4) (by omega) (by omega)) ?_;rintro v h ⟨f,R⟩;replace a:=a.trans f (fun _ h=>.inl h);simp only [BZ,r1,p,q,mV (n:=4) (by decide),seval];exact u ((i-1)/4) _ _ (by omega) ⟨by omega,a,_,R,(wD l' (by omega) (by omega)).trans pm,up_step (by omega) U (by omega) j,by simp [aB,r0,ah]⟩
     . simp only [BZ,mV (n:=4) (by decide),j,seval];exact⟨a,l',R,pm,up_done U (.inr (yX j))⟩
 . exact⟨r,Mo.refl t,l,R,.refl _,U,by simp [cK,ah],by simp [cK,dE]⟩
theorem St.monoM(S:St NoM h0 h L G):St M h0 h L G:=
 ⟨S.fr.mono (fun _ h=>h.elim),fun p a=>⟨(S.own p a).1.imp (fun h=>h) (fun h=>h.elim),(S.own p a).2⟩,fun p a=>⟨(S.gown p a).1,fun b c=>((S.gown p a).2 b c).imp (fun h=>h) (fun h=>h.elim)⟩,S.apart⟩
theorem below_ok(d:OZ h0):Ret zM 274 [ptrTo c,.int .i64 i] h0 fun v h'=>Gr h0 h'/\ ∃b1 b2,v=.func (.func 284) #[] #[ptrTo b1,ptrTo b2]/\h0.n<=b1/\h0.n<=b2/\h'.load b1 0 1=some [.int .i64 i]/\h'.load b2 0 1=some [ptrTo c]:=by have S:=Si d;refine erA (n:=6) (rs:=[.tmp 4]) Tryz.e274 ?_;simp only [BZ,seval];refine ab (bz (by exact bA)) S ?_;clear S;intro h b2 S a;simp only [BZ,if_false,seval];refine ab (bz (by exact aM)) S ?_;clear S;intro h b1 S b;simp only [BZ,aa,seval];exact⟨S.gr,b1,b2,rfl,b,a,S.ld m0 rfl,S.ld m1 rfl⟩
theorem FF(b:OZ h0){p:Addr}(e:h0.load b1 0 1=some [.int .i64 i])(q:h0.load b2 0 1=some [ptrTo k])(z:h0.load k 0 1=some [.slice (some p) n cap])(H:n<1000000)(I:i<1000000):Iter zM 284 [] [ptrTo b1,ptrTo b2] h0 (fun c=>c=b1\/c=b2\/c=k) ((Xa (min 4 (n-(4*i+1)))).map fun j=>[.int .i64 ((4*i+1+j:Nat):Int)]):=by
 refine wz fun A J Z Y h F s l=>?_;refine enA (n:=28) (rs:=[]) Tryz.e284 ?_;have d:=s.load b e (.inl rfl);have m:am .i64 (4*(i:Int))=((4*i:Nat):Int):=by rw [wrap64]<;>omega
 have B:am .i64 (((4*i:Nat):Int)+1)=((4*i+1:Nat):Int):=by rw [wrap64]<;>omega
 have r:am .i64 (((4*i:Nat):Int)+4)=((4*i+4:Nat):Int):=by rw [wrap64]<;>omega
 simp only [BZ,d,m,B,seval];refine aX (fun(j:Nat) f h=>j<=min 4 (n-(4*i+1))/\ ∃F,ItS h0 (fun c=>c=b1\/c=b2\/c=k) h F/\J j h F/\f 0=.func (.yield A) #[] #[]/\f 1=ptrTo b1/\f 2=ptrTo b2/\f 4=.int .i64 ((4*i+1+j:Nat):Int)) (fun j=>min 4 (n-(4*i+1))-j) ?_ 0 _ _ ?_
 . clear d;intro j C f h ⟨hjm,F,s,l,r0,r1,r2,r4⟩;have d:=s.load b e (.inl rfl);have u:=s.load b q (.inr (.inl rfl));have x:=s.load b z (.inr (.inr rfl));by_cases hlt:j<min 4 (n-(4*i+1))
   . have o:((4*i+1+j:Nat):Int)<=((4*i+4:Nat):Int):=(by omega);have t:4*i+1+j<n:=(by omega);have w:am .i64 (((4*i+1+j:Nat):Int)+1)=((4*i+1+(j+1):Nat):Int):=(by rw [wrap64]<;>omega);simp only [BZ,r0,r1,r2,r4,d,u,x,m,r,o,t,aE,seval];refine c7 Y s l (i:=j) (by rw [Xn,YC hlt];rfl) ?_ ?_ ?_
     . intro y D a E _ _;simp only [BZ,r4,w,seval];exact C (j+1) _ _ (by omega) ⟨by omega,D,E,a,by simp [aB,r0,r1,ah,r2]⟩
     . intro y a _;simp only [BZ,seval];exact gJ rfl ⟨rfl,.inr (.inl ⟨_,rfl,a⟩)⟩
     . intro v y a;simp only [BZ];exact iH (cy ⟨rfl,.inr (.inr ⟨_,rfl,a⟩)⟩)
   . have G:j=min 4 (n-(4*i+1)):=(by omega);have g:YQ J Z (min 4 (n-(4*i+1))) (.ret (aa [])) none h:=⟨rfl,.inl ⟨_,F,rfl,by rw [<-G];exact l⟩⟩;by_cases o:((4*i+1+j:Nat):Int)<=((4*i+4:Nat):Int)
     . have t: ¬4*i+1+j<n:=(by omega);simp only [BZ,r1,r2,r4,d,u,x,m,r,o,t,aE,seval];exact bU (cy ⟨rfl,_,rfl,by simpa using g⟩)
     . simp only [BZ,r1,r4,d,m,r,o,seval];exact bU (cy ⟨rfl,_,rfl,by simpa using g⟩)
 . exact⟨by omega,F,s,l,by simp [aB,cL,ah]⟩
theorem down_ok(ok:OZ h0){z A:Nat}{n:Int}(R:ii h0 u z A cap n l){i:Nat}(C:i<l.length\/(l=[]/\i=0))(hl:l.length<100000)(D:wC l i):Ret zM 251 [ptrTo u,.int .i64 i] h0 fun v h'=>Mo (fun c=>c=z\/c=A) h0 h'/\ ∃l',ii h' u z A cap n l'/\l'.Perm l/\oR l':=by
 have lt:=R.lt ok;have S:=Si ok;have K: ∀{L:List (Nat×Ob)},(∀c∈keys L [],h0.n<=c)-> ∀c,c=u\/c=z\/c=A-> ¬c∈keys L []:=fun H c s hm=>by have:=lt c s;have:=H c hm;omega
 refine erA (n:=27) (rs:=[]) Tryz.e251 ?_;simp only [BZ,seval];refine ab au S ?_;clear S;intro h I S P;simp only [BZ,seval];refine az (aA S (i:=0) rfl ?_ ?_ ?_ ono) ?_
 . exact(by simp only [FA0])
 . exact(by exact dI)
 . exact Xc (lbt rfl)
 clear S;rintro h ⟨S,Q⟩;clear Q;simp only [LC,ac,lay,Xd,Xe,seval]at S;simp only [BZ];have RR:=R.gr S.gr;replace S:=S.monoM (M:=fun c=>c=z\/c=A);refine sK (fun(i:Nat) ρ d h=> ∃(r:List Nat) (l':List Hd),d=r.map sI/\St (fun c=>c=z\/c=A) h0 h (dR r++[(I,.row [.func (.func 273) #[ptrTo u] #[]] 1)]) []/\(∀c∈keys (dR r++[(I,Ob.row [.func (.func 273) #[ptrTo u] #[]] 1)]) [],h0.n<=c)/\
  ii h u z A cap n l'/\l'.Perm l/\wC l' i/\(i<l.length\/(l=[]/\i=0))/\ρ 0=ptrTo u/\ρ 1=.int .i64 i/\ρ 4=ptrTo I) (fun i=>l.length-i) ?_ i _ _ _ ?_
 . clear S RR R D C i;intro i ih ρ d hS ⟨r,l',hd,S0,H,R,pm,D,C,r0,r1,r4⟩;have aL:=pm.length_eq;have af:i<1000000:=(by rcases C with C|⟨_,C⟩<;>omega);have S:=S0.base;have Rs:=R;have n0:h0.n<=hS.n:=S0.fr.n;simp only [BZ,r1,seval];refine ab au S ?_;clear S;intro h w S U;simp only [BZ,seval];refine az (aA S (i:=0) rfl ?_ ?_ ?_ ono) ?_
   . exact(by simp only [FA0])
   . exact(by exact aM)
   . exact Xc (lbt rfl)
   clear S;rintro h ⟨S,Q⟩;clear Q;simp only [LC,ac,lay,Xd,Xe,seval]at S;simp only [BZ,r0,r1,seval];have gq:=S.fr.n;have a0:=S.key_lt (b:=w) (by simp [keys]);refine step_ret (below_ok S.ok) ?_;intro v h ⟨g,b1,b2,e,n1,n2,q1,q2⟩;replace S:=S.call g;subst e;simp only [BZ];replace R:=R.mo1 S.fr (K H);have gh:=S.fr.n;refine gP S (g:=284) (a:=#[]) (b:=#[ptrTo b1,ptrTo b2]) (by simp [bw,aB,ah]) rfl rfl ?_;intro h2 E N V a1 a2 g2;have kb: ∀c∈keys (dR r++[(I,Ob.row [.func (.func 273) #[ptrTo u] #[]] 1)]) [],c<b1/\c<b2:=fun c s=>(by have:=S0.key_lt s;have:=U;omega);generalize hB:dR r++[(I,Ob.row [.func (.func 273) #[ptrTo u] #[]] 1)]=B at S V S0 H kb;have mf:(I,Ob.row [.func (.func 273) #[ptrTo u] #[]] 1)∈B:=(by rw [<-hB];exact XH _ m0);obtain⟨X,hX,V⟩: ∃X:fF,X=_/\St (· ∈keys B []) hS h2 ((N,.loop X)::(E,.dfr)::(w,.row [.int .i64 (i:Nat)] 1)::B) []:=⟨_,rfl,V⟩;have R2:=R.gr g2;have ch: ∀j,j<min 4 (l'.length-(4*i+1))->4*i+1+j<l'.length/\(4*i+1+j-1)/4=i:=fun j hj=>⟨by omega,by omega⟩;have hY:Yld zM N (fun j h' F=> ∃m:Nat,St (· ∈keys B []) hS h' ((N,.loop X)::(E,.dfr)::(w,.row [.int .i64 (m:Nat)] 1)::B) []/\F=keys ((N,.loop X)::(E,.dfr)::(w,.row [.int .i64 (m:Nat)] 1)::B) []/\
    (m<l'.length\/(l'=[]/\m=i))/\hle (l'.getD m default) (l'.getD i default)/\(∀q,q<j->hle (l'.getD m default) (l'.getD (4*i+1+q) default))/\(m=i\/(0<m/\(m-1)/4=i/\hlt (l'.getD m default) (l'.getD i default)))) (fun _ _=>False) ((Xa (min 4 (l'.length-(4*i+1)))).map fun j=>[.int .i64 ((4*i+1+j:Nat):Int)]):=by
    refine⟨?_,?_,fun _ _ h=>h.elim,?_⟩
    . rintro j h F ⟨m,S,rfl,_⟩;exact⟨S.ok,fun b t=>S.key_lt t⟩
    . rintro j h F h' ⟨m,S,rfl,k⟩ g;exact⟨m,S.call g,rfl,k⟩
    . rintro j x h F hx ⟨m,S,rfl,G,k2,W,Y⟩;have Z:j<min 4 (l'.length-(4*i+1)):=(by have:=(List.getElem?_eq_some_iff.1 hx).1;simpa using this);rw [Xn,YC Z]at hx;cases hx;obtain⟨c1,c2⟩:=ch j Z;replace G:=G.resolve_right (by intro e;rw [e.1]at c1;simp at c1);obtain⟨X0,ai⟩: ∃x,x=X:=⟨_,rfl⟩;subst hX;refine gK (S.get m0) (by rw [Tryz.e251];rfl) rfl ?_;have S1:=S;replace S:=S.base;simp only [BZ,seval];refine fG S (i:=0) rfl rfl rfl rfl rfl ?_;clear S;intro h S;simp only [LC]at S;have lf:h.load I 0 1=some [.func (.func 273) #[ptrTo u] #[]]:=S.ld (o:=0) (.tail _ (.tail _ (.tail _ mf))) rfl;simp only [BZ,r4,lf,S.ld (b:=w) (o:=0) m2 rfl,seval];have ak: ∀c∈keys ((N,Ob.loop X0)::(E,.dfr)::(w,.row [.int .i64 (m:Nat)] 1)::B) [],h0.n<=c:=fun c s=>(S1.key_own s).elim (fun h=>by omega) (fun h=>H c h);clear ai;have Rc:ii h u z A cap n l':=(Rs.mo1 S1.fr (K H)).mo1 S.fr (K ak);refine ae (Dm S.ok Rc c1 G) ?_;intro h g;replace S:=S.call g;clear g Rc lf;by_cases O:hlt (l'.getD (4*i+1+j) default) (l'.getD m default)
      . simp only [BZ,O,seval];refine az (aA S (i:=2) rfl ?_ ?_ ?_ ono) ?_
        . exact(by simp only [FA0])
        . exact(by exact aM)
        . exact Xc (lbt rfl)
        clear S;rintro h ⟨S,Q⟩;clear Q;simp only [LC,ac,lay,Xd,Xe,seval]at S;simp only [BZ];refine dC S (i:=0) rfl ?_;clear S;intro h S;simp only [LC]at S;refine .inl ⟨rfl,_,⟨4*i+1+j,S1.rebase S,rfl,.inl c1,mP (vk O) k2,fun q hq=>?_,.inr ⟨by omega,c2,?_⟩⟩,S.fr,S.key_new⟩
        . by_cases e:q=j
          . subst e;exact yF _
          . exact mP (vk O) (W q (by omega))
        . rcases Y with rfl|⟨_,_,Y⟩
          . exact O
          . unfold hlt at*;omega
      . simp only [BZ,O,seval];refine dC S (i:=0) rfl ?_;clear S;intro h S;simp only [LC]at S;refine .inl ⟨rfl,_,⟨m,S1.rebase S,rfl,.inl G,k2,fun q hq=>?_,Y⟩,S.fr,S.key_new⟩;by_cases e:q=j
        . subst e;exact yX O
        . exact W q (by omega)
   refine dh (Dh (FF S.ok q1 q2 (R.row.load1 (o:=0) rfl) (by omega) af) hY (h:=h2) (F:=keys ((N,.loop X)::(E,.dfr)::(w,.row [.int .i64 (i:Nat)] 1)::B) []) g2.fr (fun b t hlt=>?_) ⟨i,V,rfl,?_,yF _,fun q hq=>by omega,.inl rfl⟩) fun o rc h' y=>iJ y ?_
   . have e1:=V.key_own t;rintro(rfl|rfl|rfl)
     . rcases List.mem_cons.1 t with e|t
       . omega
       . rcases List.mem_cons.1 t with e|t
         . omega
         . rcases List.mem_cons.1 t with e|t
           . simp only []at e;omega
           . have:=(kb _ t).1;omega
     . rcases List.mem_cons.1 t with e|t
       . omega
       . rcases List.mem_cons.1 t with e|t
         . omega
         . rcases List.mem_cons.1 t with e|t
           . simp only []at e;omega
           . have:=(kb _ t).2;omega
     . have:=lt b (.inl rfl);rcases e1 with e1|e1
       . omega
       . have:=H b e1;omega
   . rcases C with C|⟨C,_⟩
     . exact .inl (by omega)
     . right;rw [C]at pm;exact⟨pm.eq_nil,rfl⟩
   . rintro F ⟨m,T,rfl,G,k2,W,Y⟩;rw [Yt,List.length_range]at W;subst hX;refine⟨_,T.get m0,Ys,?_⟩;replace T:=T.dead;show Run _ _ _ _ _ _ _ _;have p:=T.ld (b:=w) (o:=0) m1 rfl;have Rc:ii _ u z A cap n l':=Rs.mo1 T.fr (K H);have km: ∀q,0<q->q<l'.length->(q-1)/4=i->hle (l'.getD m default) (l'.getD q default):=fun q q0 ql qe=>(by have:=W (q-(4*i+1)) (by omega);rwa [show 4*i+1+(q-(4*i+1))=q by omega]at this);have T0:=S0.rebase T;have ad: ∀c∈keys ((E,Ob.dfr)::(w,.row [.int .i64 (m:Nat)] 1)::B) [],h0.n<=c:=fun c s=>(T.key_own s).elim (fun h=>by omega) (fun h=>H c h);subst hd hB;have T2:=T0.sub (L':=dR (E::r)++[(I,Ob.row [.func (.func 273) #[ptrTo u] #[]] 1)]) (G':=[]) (List.Sublist.cons_cons _ (List.sublist_cons_self _ _)) (List.Sublist.refl _);have J: ∀c∈keys (dR (E::r)++[(I,Ob.row [.func (.func 273) #[ptrTo u] #[]] 1)]) [],h0.n<=c:=fun c s=>ad c (by simp only [keys,Yi,XG,dR,XJ,List.cons_append,XS]at s⊢;rcases s with h|h;exact .inl h;exact .inr (.inr h));by_cases e:m=i
     . subst e;simp only [BZ,r1,p,seval];have T3:=T2.base;refine df (gm (E::r) _ T3 fun h' T4=>⟨rfl,_,rfl,?_⟩);refine⟨(T2.fr.trans T4.fr fun c s=>(T2.key_own s).symm),l',Rc.mo1 T4.fr (K J),pm,dn_done D km⟩
     . have e': ¬((m:Int)=(i:Int)):=(by omega);obtain⟨b0,be,al⟩:=Y.resolve_left e;replace G:=G.resolve_right (fun h=>e h.2);simp only [BZ,r0,r1,p,e',seval];refine step_ret (wY T2.ok Rc (i:=i) (k:=m) (by omega) G) ?_;rintro v h ⟨f,Rn⟩;have ax:=K J;have T3:=T2.step f (fun c s=>.inl s) (fun c s hM=>ax c (.inr hM) s);have f2:Mo (fun c=>c=z\/c=A) _ h:=f;have ay:h.load w 0 1=some [.int .i64 (m:Nat)]:=(by have a3:h0.n<=w:=ad w (.tail _ m0);have:=f.get w (aV f.ok0 p) (fun hM=>by have:=lt w (.inr hM);omega);unfold Hp.load at p⊢;rw [this];exact p);simp only [BZ,ay,seval];exact ih m _ _ _ (by omega) ⟨E::r,_,rfl,T3,J,Rn,(wD l' (by omega) G).trans pm,dn_step D b0 G be al km,.inl (by omega),by simp [aB,r0,ah,r4]⟩
 . exact⟨[],l,rfl,S,fun c s=>by simp [keys,dR]at s;subst s;exact P,RR,.refl _,D,C,by simp [aB,cK,ah,dE]⟩
theorem mM.push{f:Int->Option Value}(h:mM f l){x:Hd}(c:x.id∉l.map Hd.id):mM (dY f x.id (some (.int .i64 l.length))) (l++[x]):=by
 refine⟨fun i b=>?_,fun y v a=>?_⟩
 . unfold dY;simp at b;by_cases e:i=l.length
   . grind
   . rw [qj l _ (by omega),if_neg ?_]
     . exact h.1 i (by omega)
     grind
 . unfold dY at a;by_cases e:y=x.id
   . refine⟨l.length,by simp,?_⟩;grind
   . rw [if_neg e]at a;obtain⟨i,b,d⟩:=h.2 y v a;exact⟨i,by simp;omega,by grind⟩
theorem mM.cut{f:Int->Option Value}(h:mM f l)(c:l.length=m+1):mM (dY f (l.getD m default).id none) (l.take m):=by
 refine⟨fun i b=>?_,fun y v a=>?_⟩
 . rw [XM]at b;rw [getD_take l (by omega)];unfold dY;rw [if_neg ?_]
   . exact h.1 i (by omega)
   . intro e;have:=h.inj (i:=i) (j:=m) (by omega) (by omega) (by omega);omega
 . unfold dY at a;by_cases e:y=(l.getD m default).id
   . grind
   . rw [if_neg e]at a;obtain⟨i,b,d⟩:=h.2 y v a;have:i≠m:=fun g=>(by grind);exact⟨i,by grind,by grind⟩
theorem mM.setKey{f:Int->Option Value}(h:mM f l)(k:Int):mM f (l.set i ⟨(l.getD i default).id,k⟩):=by
 have e: ∀j,((l.set i ⟨(l.getD i default).id,k⟩).getD j default).id=(l.getD j default).id:=fun j=>by grind
 refine⟨fun j a=>?_,fun y v b=>?_⟩
 . rw [e];exact h.1 j (by grind)
 . obtain⟨j,a,c⟩:=h.2 y v b;grind
theorem idxF_nil:mM (fun _=>none) []:=⟨fun i a=>by simp at a,fun x v h=>by cases h⟩
theorem fu.take{cs:List Value}{cap:Nat}{l:List Hd}(c:fu cs cap l)(m:Nat):fu cs cap (l.take m):=
 ⟨c.len,Xk (by grind) c.le,fun i a=>by
  rw [XM]at a;rw [getD_take l (by omega)];exact c.at0 i (by omega)⟩
theorem fu.push{a:List Value}{cap':Nat}(c:fu cs cap l){x:Hd}(d:a.length=cap'*2)(g:l.length<cap')(b: ∀j,j<l.length*2->a[j]? =cs[j]?)(h:a[l.length*2]? =some (.int .i64 x.id)/\a[l.length*2+1]? =some (.int .i64 x.key)):fu a cap' (l++[x]):=by
 refine⟨d,by simp;omega,fun i f=>?_⟩;simp at f;by_cases e:i=l.length
 . grind
 . rw [qj l _ (by omega),b _ (by omega),b _ (by omega)];exact c.at0 i (by omega)
theorem Dx{t e:TypeId}{len:Nat}(c:E.und t=some (.slice e))(d:E.sz e=some k)(f:n<=cap):iq E t (.slice (some ⟨b,0,some k⟩) len cap) none (some (.int kd (n:Int))) none=some (.slice (some ⟨b,0,some k⟩) n cap):=by have a: ∀n:Nat,jt (n:Int)=some n:=fun n=>rfl;simp_all[iq,ie,gY,Xo,cond_true,XC,cond_false,Nat.sub_zero]
section
variable{M:Nat->Prop}{h0 h:Hp}{L:List (Nat×Ob)}{G:List GL}{E:Env}{t tx e:TypeId}{by_:Nat}{zs:List Value}
theorem St.appH(S:St M h0 h ((d,.row cs 1)::L) G)(C:fu cs cap l)(F:E.und t=some (.slice e))(H:fV E e by_ 2 zs)(Q:0<by_)(I:by_<=100)(r:eS E tx=some false){x:Hd}(f:aR h 2 z=some (1,nX x))(R:l.length<1000000){ts:List TypeId}:
 ∃h' w,dS E h (t::tx::ts) (.slice (some ⟨d,0,some 2⟩) l.length cap) z=some (h',w)/\ ∃a cap' g,w=.slice (some ⟨a,0,some 2⟩) (l.length+1) cap'/\St M h0 h' ((a,.row g 1)::L) G/\fu g cap' (l++[x])/\(a=d\/h.n<=a):=by
 obtain⟨⟨i,J,rfl,c⟩,K,s⟩:=H;have A:Row h d cs 1:=S.row m0;have B:=C.len;by_cases U:l.length+1<=cap
 . obtain⟨y,V,N⟩:=A.store S.ok ono (o:=l.length*2) (vs:=nX x) (by rw [mR];omega) rfl;refine⟨h.put d y,_,?_,d,cap,_,rfl,S.put (i:=0) rfl N,?_,.inl rfl⟩
   . simp_all[dS,lZ,ig,Xo,cond_true,nX,Xi]
   . refine C.push (by grind[qN,mR]) (by omega) (fun j O=>?_) ⟨?_,?_⟩
     . rw [lS (by rw [mR];omega),if_neg (by omega)]
     . rw [lS (by rw [mR];omega),if_pos ⟨XD _,by rw [mR];omega⟩,Yf];rfl
     . rw [lS (by rw [mR];omega),if_pos ⟨by omega,by rw [mR];omega⟩,Yr];rfl
 . have D:cap=l.length:=(by have:=C.le;omega);obtain⟨q,W,k,m,P⟩:=A;have u:lE q cs.length 0 (l.length*2) (nX x)=some (q.pushAll cs.length (nX x),cs.length+2):=(by unfold lE;rw [show l.length*2=cs.length by omega,Yl,Yl];rfl);have T:=S.dead.new (x:=.cells (q.pushAll cs.length (nX x)) (cs.length+2) e 1) (o:=.row (cs++nX x) 1) (by
    refine⟨q.pushAll cs.length (nX x),e,?_,?_,fun n=>?_⟩
    . rw [Hp.get_new _ _ S.dead.ok,if_pos rfl,Xu];rfl
    . rw [Xu];exact Tr.sized_pushAll _ m
    grind[Tr.get_pushAll])
   refine⟨_,.slice (some ⟨h.n,0,some 2⟩) (l.length+1) (l.length+1),?_,h.n,l.length+1,_,rfl,T,?_,.inr (XD _)⟩
   . simp only [dS,r,lZ,F,J,c,f];unfold ig;have p:X9 (l.length+1) cap=false:=by
      cases r:X9 (l.length+1) cap with
      |false=>rfl|true=>exact absurd (lbt r) (by omega)
     rw [p];simp only [cond_false];have b:(X9 ((l.length+1)*(i.bytes+1)) 70368744177664&&Nat.blt 0 i.bytes)=true:=(by have:(l.length+1)*(i.bytes+1)<=1000000*101:=Nat.mul_le_mul (by omega) (by omega);rw [Xo (by omega)];simp_all);have v:X7 zs.length i.size=true:=(by rw [s,c];rfl);rw [b,K];simp only [cond_true,v];unfold pY;simp only [k,c,u];rfl
   . refine C.push (by rw [Xu,mR];omega) (by omega) (fun j O=>?_) ⟨?_,?_⟩
     . grind
     . rw [Xr (by omega),show l.length*2-cs.length=0 by omega];rfl
     . rw [Xr (by omega),show l.length*2+1-cs.length=1 by omega];rfl
theorem St.appH0(S:St M h0 h L G)(n:E.und t=some (.slice e))(p:fV E e by_ 2 zs)(u:0<by_)(q:by_<=100)(r:eS E tx=some false){x:Hd}{m:Value}(d:aR h 2 m=some (1,nX x)){ts:List TypeId}:
 ∃h' w,dS E h (t::tx::ts) (.slice none 0 0) m=some (h',w)/\ ∃b cap' f,w=.slice (some ⟨b,0,some 2⟩) 1 cap'/\St M h0 h' ((b,.row f 1)::L) G/\fu f cap' [x]/\h.n<=b:=by
 obtain⟨⟨i,j,rfl,c⟩,s,k⟩:=p;have T:=S.new (x:=.cells (Tr.ofList (nX x)) 2 e 1) (o:=.row (nX x) 1) (re S.ok (nX x) e 1);refine⟨_,.slice (some ⟨h.n,0,some 2⟩) 1 1,?_,h.n,1,_,rfl,T,⟨rfl,by simp,fun i j=>?_⟩,XD _⟩
 . simp only [dS,r,lZ,n,j,c,d];unfold ig;have g:X9 (0+1) 0=false:=rfl;rw [g];simp only [cond_false];have a:(X9 ((0+1)*(i.bytes+1)) 70368744177664&&Nat.blt 0 i.bytes)=true:=(by rw [Xo (by omega)];simp_all);have l:X7 zs.length i.size=true:=(by rw [k,c];rfl);rw [a,s];simp only [cond_true,l];unfold pY;rw [show X7 0 0=true from rfl,c];rfl
 . have:i=0:=(by simpa using j);subst this;exact⟨rfl,rfl⟩
theorem St.rowS{N:Int}{g:List (Value×Value×Nat)}{f:Int->Option Value}(S:St M h0 h [(b,.row cs 1),(i,.row [.slice (some ⟨b,0,some 2⟩) n cap,.map (some d),.int .i64 N] 1),(d,.map g c)] [])(C:fu cs cap l)(j:n=l.length)(k:dQ g c f)(m:mM f l):ii h i b d cap N l:=by subst j;have a:=S.apart;simp only [keys,XJ,Yk,Yi,XG,X6,XS,X8,or_false,not_or]at a;exact⟨S.row m1,⟨cs,g,c,f,S.row m0,(S.own _ m2).2,C,k,m⟩,fun e=>a.1.1 e.symm,a.2.1,a.1.2⟩
end
theorem hZ{b:Bool}{t:TypeId}{a v:Operand}:cH ρ b (.store t a v) h h'=(match ρ a with| .pointer (some a)=>some (.blk a.block)|_=>none):=by simp only [cH,dJ,jo,eR,touch,cond_false];grind
theorem tT{b:Bool}{x:Operand}{ts:Array TypeId}:cH ρ b (.call ⟨.builtin .len,#[x],ts⟩) h h'=(match ρ x with| .map (some r)=>some (.blk r)| .slice (some a) _ _=>some (.blk a.block)|_=>none):=by simp only [cH,dJ,jo,eR,touch,cond_false];grind
theorem dn_del{Q:gH}{a:List Oper}{k:List Fr}{l:Loc}{b:Hp->List (Nat×Tch)}{t:TypeId}{m key:Value}{P:Hp->Prop}(c: ∃h',oJ E h t m key=some h'/\P h')(d: ∀h',P h'->Run E (lim E) cx Q (.opsD a q ps os (i+1) (b h')::k) .normal (l.put o.dst (.tuple #[])) h'):DN E cx Q a q ps o os i k l b (delR E h t m key):=by
 obtain⟨h',e,f⟩:=c;unfold delR;rw [e];exact d h' f
structure cF(h:Hp)(F:List Nat)(p:Value)(N:Nat)(K:Nat->Option Int):Prop where
 ex: ∃bh bm l,p=ptrTo bh/\oR l/\ji l K/\(∀x∈l,x.id<N)/\
  ((l=[]/\F=[bh,bm]/\bh≠bm/\Row h bh [.slice none 0 0,.map (some bm),.int .i64 N] 1/\ ∃es c,h.get bm=some (.map es c)/\dQ es c (fun _=>none))\/ ∃bl cap,F=[bh,bl,bm]/\ii h bh bl bm cap N l)
theorem cF.mo{M:Nat->Prop}{h h':Hp}{F:List Nat}{p:Value}{N:Nat}{K:Nat->Option Int}(a:cF h F p N K)(g:Mo M h h')(d: ∀b∈F,¬M b):cF h' F p N K:=by
 obtain⟨j,m,l,e,n,q,r,s⟩:=a.ex;refine⟨j,m,l,e,n,q,r,?_⟩;rcases s with⟨t,rfl,u,v,i,c,w,x⟩|⟨y,f,rfl,k⟩
 . exact .inl ⟨t,rfl,u,g.has (o:=.row _ 1) v (d _ (by simp)),i,c,g.has (o:=.map i c) w (d _ (by simp)),x⟩
 . exact .inr ⟨y,f,rfl,k.mo g (d _ (by simp)) (d _ (by simp)) (d _ (by simp))⟩
theorem cF.gr(a:cF h F p N K)(g:Gr h h'):cF h' F p N K:=a.mo (M:=NoM) g.fr (fun _ _ h=>h)
theorem cF.lt{h:Hp}(f:OZ h){F:List Nat}{p:Value}{N:Nat}{K:Nat->Option Int}(a:cF h F p N K): ∀b∈F,b<h.n:=by
 obtain⟨n,o,l,e,q,r,s,g⟩:=a.ex;rcases g with⟨t,rfl,u,i,v,c,j,w⟩|⟨x,m,rfl,k⟩
 . intro b d;simp at d;rcases d with rfl|rfl
   . exact i.lt f
   . exact iG f j
 . intro b d;simp at d;exact k.lt f b d
theorem xS(h:ji l K)(a: ∀x∈l,x.id<N):l.length<=N:=by have:=pM N (l.map Hd.id) h.1 (fun x b=>by grind);simpa using this
theorem um(k:OZ h0):Ret zM 195 [.int .i64 N] h0 fun v h'=>Gr h0 h'/\ ∃F,cF h' F v N (fun _=>none)/\ ∀b∈F,h0.n<=b:=by
 have S:=Si k;have l:max (N:Int) 0=(N:Int):=by omega
 refine erA (n:=9) (rs:=[.tmp 2]) Tryz.e195 ?_;simp only [BZ];refine ab lM S ?_;clear S;intro h f S a;simp only [BZ,l,seval];refine ab (aW (by intro x e;cases e)) S ?_;clear S;intro h b S d;simp only [ac]at S;simp only [BZ,aa,seval];have g:=S.apart;simp only [keys,XJ,Yk,Yi,XG,X6,XS,X8,or_false]at g;refine⟨S.gr,[b,f],⟨b,f,[],rfl,fun j _ m=>(by simp at m),cont_nil,fun x o=>(by cases o),.inl ⟨rfl,rfl,g.1,S.row m0,[],0,(S.own _ m1).2,om⟩⟩,fun c i=>?_⟩;simp at i;rcases i with rfl|rfl
 . exact d
 . exact a
section
variable{h0:Hp}{F:List Nat}{p:Value}{N:Nat}{K:Nat->Option Int}
theorem uc(f:OZ h0)(H:cF h0 F p N K): ∃m:Nat,aQ zM 249 [p] h0 (.int .i64 m)/\(m=0↔ ∀v,K v=none):=by
 obtain⟨g,q,l,rfl,r,d,s,h⟩:=H.ex;refine⟨l.length,?_,?_⟩
 . have S:=Si f;obtain⟨a,n,c,m1,m2,b,i⟩: ∃a n c m1 m2,Row h0 g [.slice a n c,m1,m2] 1/\n=l.length:=by
    rcases h with⟨rfl,_,_,b,_⟩|⟨t,j,_,b⟩
    . exact⟨_,_,_,_,_,b,rfl⟩
    . exact⟨_,_,_,_,_,b.row,rfl⟩
   subst i;have k:=b.load1 (o:=0) rfl;refine erA (n:=11) (rs:=[.tmp 2]) Tryz.e249 ?_;simp only [BZ,aa,k,seval];exact S.gr
 . constructor
   . intro e;rw [List.length_eq_zero_iff.1 e]at d;exact d.nil
   . intro e;cases l with
     |nil=>rfl| cons x l=>
       have:=(d.2 x.id x.key).2 (by simp);rw [e]at this;cases this
theorem zt(y:OZ h0)(H:cF h0 F p N K):aQ zM 248 [p,.int .i64 v] h0 (.tuple #[.int .i64 ((K v).getD 0),.bool (K v).isSome]):=by
 have S:=Si y;obtain⟨m,a,A⟩:=uc y H;obtain⟨O,P,l,rfl,Q,r,T,I⟩:=H.ex;by_cases b:m=0
 . subst b;have e:=A.1 rfl v;rw [e];refine erA (n:=32) (rs:=[.tmp 4,.tmp 5]) Tryz.e248 ?_;simp only [BZ,seval];refine ae (a) ?_;intro h g;replace S:=S.call g;simp only [BZ,aa,Xb,seval];exact⟨rfl,S.gr⟩
 . have d: ¬((m:Int)=0):=(by omega);rcases I with⟨rfl,_⟩|⟨U,J,_,R⟩
   . exact absurd (A.2 r.nil) b
   . refine erA (n:=32) (rs:=[.tmp 4,.tmp 5]) Tryz.e248 ?_;simp only [BZ,seval];refine ae (a) ?_;intro h g;replace S:=S.call g;replace R:=R.gr g;clear g;obtain⟨V,W,c,f,s,t,C,L,B⟩:=R.ex;have M:=R.row.load1 (o:=0) rfl;have D:=R.row.load1 (o:=1) rfl;have q:=nY (x:=(v:Int)) Tryz.t230.1 Tryz.t3.1 (z:=.int .i64 0) (by kernel_rfl) t L;cases E:K v with
     | none=>
       have u:f v=none:=by
        cases hf:f v with
        |none=>rfl| some w=>
          obtain⟨i,j,e⟩:=B.2 v w hf;have:=r.at j;rw [show(l.getD i default).id=v by omega,E]at this;cases this
       rw [u]at q;simp only [BZ,aa,d,D,q,XQ,XC,seval];exact S.gr
     | some k=>
       obtain⟨i,j,e⟩:=r.idx E;have u:f v=some (.int .i64 i):=(by have:=B.1 i j;rwa [e]at this);rw [u]at q;have G:=C.ld1 s j;rw [e]at G;simp only [BZ,aa,d,M,D,q,Xz,j,G,seval];exact S.gr
theorem qd(ok:OZ h0)(H:cF h0 F p N K)(hv:v<N)(hN:N<=1000)(P:K v=none){k:Int}:Ret zM 209 [p,.int .i64 v,.int .i64 k] h0 fun r h'=>Mo (· ∈F) h0 h'/\ ∃F',cF h' F' p N (dw K v (some k))/\ ∀b∈F',b∈F\/h0.n<=b:=by
 obtain⟨a,s,l,rfl,ho,m,hlt,D⟩:=H.ex;have af:=xS m hlt;have c1: ¬((v:Int)<0):=by omega
 have c2: ¬((N:Int)<=(v:Int)):=by omega
 have hn:=m.free P;rcases D with⟨rfl,rfl,T,hr,U,c,g,E⟩|⟨G,u,rfl,R⟩
 . have S:=St.init2 (M:=(· ∈[a,s])) ok (o1:=.row _ 1) (o2:=.map U c) hr g T (by simp) (by simp);have Q:=nY (x:=(v:Int)) Tryz.t230.1 Tryz.t3.1 (z:=.int .i64 0) (by kernel_rfl) g E;refine erA (n:=71) (rs:=[.tmp 6]) Tryz.e209 ?_;simp only [BZ,Q,c1,c2,XQ,XC,S.ld (b:=a) (o:=1) m0 rfl,S.ld (b:=a) (o:=2) m0 rfl,seval];refine ao (av rfl) (q:=0) (ps:=[]) (by kernel_rfl) ?_;simp only [BZ,cls,Xb,S.ld (b:=a) (o:=0) m0 rfl,S.ld (b:=a) (o:=1) m0 rfl,seval];refine cJ (S.mputI (i:=1) rfl Tryz.t230.1 Tryz.t3.1 E _) ?_;clear S;rintro h ⟨_,V,c',y,S⟩;simp only [LC]at S;simp only [BZ,S.ld (b:=a) (o:=0) m0 rfl,S.ld (b:=a) (o:=1) m0 rfl,seval];refine ab (bZ (by exact Tryz.t321.1) (by exact Tryz.e330E) (by decide) (by rfl)) S ?_;clear S;intro h I S J;simp only [LC,bJ,cd,ac,Xm,Xi,Xj,Xp,seval]at S;simp only [BZ,S.ld (b:=a) (o:=0) m1 rfl,S.ld (b:=a) (o:=1) m1 rfl,seval];have j:aR h 2 (.slice (some ⟨I,0,none⟩) 1 1)=some (1,nX ⟨v,k⟩):=(by simp only [aR];rw [S.lds (b:=I) (o:=0) (n:=1*2) m0 (lbt rfl)];rfl);replace S:=S.drop1;refine dT (S.appH0 Tryz.t321.1 Tryz.e330E (by decide) (by decide) Tryz.t321.2.2.2.2.2 j) ?_;clear S j;rintro h w ⟨G,u,cs,rfl,S,C,W⟩;simp only [BZ,seval];refine az (aA S (i:=1) rfl ?_ ?_ ?_ ono) ?_
   . exact(by simp only [FA0])
   . exact(by exact bH)
   . exact Xc (lbt rfl)
   clear S;rintro h ⟨S,X⟩;clear X;simp only [LC,ac,lay,Xd,Xe,seval]at S;simp only [BZ];refine ao (av rfl) (q:=0) (ps:=[]) (by kernel_rfl) ?_;simp only [BZ,cls,Xb,S.ld (b:=a) (o:=0) m1 rfl,S.ld (b:=a) (o:=1) m1 rfl,seval];have R:ii h a G s u N ([]++[⟨v,k⟩]):=S.rowS C rfl y (idxF_nil.push hn);have Y:am .i64 0=((0:Nat):Int):=rfl;rw [Y];refine bO (up_ok S.ok R (i:=0) (by simp) (by simp) (AU ho ⟨v,k⟩)) ?_;have d:=(S.own _ m0).1;rintro r h ⟨f,Z,R',L,A⟩;simp only [BZ,Xb,seval];refine⟨S.fr.trans f (fun c m=>?_),[a,G,s],⟨a,s,Z,rfl,A,(m.push P k).perm L,fun x D=>?_,.inr ⟨G,u,rfl,R'⟩⟩,fun b O=>?_⟩
   . rcases m with rfl|rfl
     . exact d.symm
     . exact .inl (by simp)
   . have:=L.mem_iff.1 D;simp at this;subst this;exact hv
   . simp at O;rcases O with rfl|rfl|rfl
     . exact .inl (by simp)
     . exact d.symm
     . exact .inl (by simp)
 . obtain⟨cs,U,c,f,ad,g,C,E,IF⟩:=R.ex;have S:=St.init3 (M:=(· ∈[a,G,s])) ok (o1:=.row cs 1) (o2:=.row _ 1) (o3:=.map U c) ad R.row g R.ne.1.symm R.ne.2.2 R.ne.2.1 (by simp) (by simp) (by simp);have Q:=nY (x:=(v:Int)) Tryz.t230.1 Tryz.t3.1 (z:=.int .i64 0) (by kernel_rfl) g E;have fv:f v=none:=by
    cases hf:f v with
    |none=>rfl| some w=>
      obtain⟨i,hi,e⟩:=IF.2 v w hf;have:=m.at hi;rw [show(l.getD i default).id=v by omega,P]at this;cases this
   rw [fv]at Q;refine erA (n:=71) (rs:=[.tmp 6]) Tryz.e209 ?_;simp only [BZ,Q,c1,c2,XQ,XC,S.ld (b:=a) (o:=1) m1 rfl,S.ld (b:=a) (o:=2) m1 rfl,seval];refine ao (av rfl) (q:=0) (ps:=[]) (by kernel_rfl) ?_;simp only [BZ,cls,S.ld (b:=a) (o:=0) m1 rfl,S.ld (b:=a) (o:=1) m1 rfl,seval];refine cJ (S.mputI (i:=2) rfl Tryz.t230.1 Tryz.t3.1 E _) ?_;clear S;rintro h ⟨_,V,c',y,S⟩;simp only [LC]at S;simp only [BZ,S.ld (b:=a) (o:=0) m1 rfl,S.ld (b:=a) (o:=1) m1 rfl,seval];refine ab (bZ (by exact Tryz.t321.1) (by exact Tryz.e330E) (by decide) (by rfl)) S ?_;clear S;intro h I S J;simp only [LC,bJ,cd,ac,Xm,Xi,Xj,Xp,seval]at S;simp only [BZ,S.ld (b:=a) (o:=0) m2 rfl,S.ld (b:=a) (o:=1) m2 rfl,seval];have j:aR h 2 (.slice (some ⟨I,0,none⟩) 1 1)=some (1,nX ⟨v,k⟩):=(by simp only [aR];rw [S.lds (b:=I) (o:=0) (n:=1*2) m0 (lbt rfl)];rfl);replace S:=S.drop1;refine dT (S.appH C Tryz.t321.1 Tryz.e330E (by decide) (by decide) Tryz.t321.2.2.2.2.2 j (by omega)) ?_;clear S j;rintro h w ⟨B,t,ai,rfl,S,C',W⟩;simp only [BZ,seval];refine az (aA S (i:=1) rfl ?_ ?_ ?_ ono) ?_
   . exact(by simp only [FA0])
   . exact(by exact bH)
   . exact Xc (lbt rfl)
   clear S;rintro h ⟨S,X⟩;clear X;simp only [LC,ac,lay,Xd,Xe,seval]at S;simp only [BZ];refine ao (av rfl) (q:=0) (ps:=[]) (by kernel_rfl) ?_;have Y:am .i64 (((l.length+1:Nat):Int)-1)=((l.length:Nat):Int):=(by rw [wrap64]<;>omega);simp only [BZ,cls,Y,S.ld (b:=a) (o:=0) m1 rfl,S.ld (b:=a) (o:=1) m1 rfl,seval];have R:ii h a B s t N (l++[⟨v,k⟩]):=S.rowS C' (by simp) y (IF.push hn);refine bO (up_ok S.ok R (i:=l.length) (by simp) (by simp;omega) (AU ho ⟨v,k⟩)) ?_;have d:=(S.own _ m0).1;rintro r h ⟨f,Z,R',L,A⟩;simp only [BZ,seval];refine⟨S.fr.trans f (fun c m=>?_),[a,B,s],⟨a,s,Z,rfl,A,(m.push P k).perm L,fun x D=>?_,.inr ⟨B,t,rfl,R'⟩⟩,fun b O=>?_⟩
   . rcases m with rfl|rfl
     . exact d.symm
     . exact .inl (by simp)
   . have:=L.mem_iff.1 D;simp at this;rcases this with h|rfl
     . exact hlt x h
     . exact hv
   . simp at O;rcases O with rfl|rfl|rfl
     . exact .inl (by simp)
     . exact d.symm
     . exact .inl (by simp)
theorem rL(T:OZ h0)(H:cF h0 F p N K)(hN:N<=1000){t k:Int}(U:K v=some t)(hle:k<=t):Ret zM 208 [p,.int .i64 v,.int .i64 k] h0 fun r h'=>Mo (· ∈F) h0 h'/\cF h' F p N (dw K v (some k)):=by
 obtain⟨d,w,l,rfl,V,g,hlt,y⟩:=H.ex;have W:=xS g hlt;obtain⟨i,a,u⟩:=g.idx U;have X:v<N:=by have:=hlt (l.getD i default) (by rw [zO,Xf a];exact Xw a);rwa [u]at this
 have Y: ¬((v:Int)<0):=by omega
 have Z: ¬((N:Int)<=(v:Int)):=by omega
 have c3: ¬(t<k):=by omega
 rcases y with⟨rfl,_⟩|⟨A,j,rfl,R⟩
 . simp at a
 . obtain⟨G,es,c,f,m,q,C,I,J⟩:=R.ex;have S:=St.init3 (M:=(· ∈[d,A,w])) T (o1:=.row G 1) (o2:=.row _ 1) (o3:=.map es c) m R.row q R.ne.1.symm R.ne.2.2 R.ne.2.1 (by simp) (by simp) (by simp);have L:=nY (x:=(v:Int)) Tryz.t230.1 Tryz.t3.1 (z:=.int .i64 0) (by kernel_rfl) q I;have fv:f v=some (.int .i64 i):=(by have:=J.1 i a;rwa [u]at this);rw [fv]at L;have O:=C.ld1 m a;have P:=C.len;have ad:=C.le;have ek:(l.getD i default).key=t:=(by rw [u]);have B:(l.getD i default).id=v:=(by rw [u]);rw [ek]at O;refine erA (n:=61) (rs:=[.tmp 6]) Tryz.e208 ?_;simp only [BZ,L,Y,Z,c3,a,O,Xz,S.ld (b:=d) (o:=0) m1 rfl,S.ld (b:=d) (o:=1) m1 rfl,S.ld (b:=d) (o:=2) m1 rfl,seval];refine az (S.store (i:=0) (off:=i*2+1) rfl Tryz.t2.2.2.1 (by intro x e;cases e) rfl rfl (by omega) ono) ?_;clear S;rintro h ⟨S,_⟩;simp only [LC,ac]at S;have Q:=C.setKey a k;generalize lay G (i*2+1) _=af at S Q;simp only [BZ,S.ld (b:=d) (o:=0) m1 rfl,S.ld (b:=d) (o:=1) m1 rfl,seval];have R1:ii h d A w j N (l.set i ⟨(l.getD i default).id,k⟩):=S.rowS Q (by rw [Xs]) I (J.setKey k);refine step_ret (up_ok S.ok R1 (i:=i) (by rw [Xs];exact a) (by rw [Xs];omega) (E6 V (by unfold Ab.hle;simp only [];omega))) ?_;rintro r h ⟨f,l',R',D,E⟩;simp only [BZ,seval];have s:=g.lower a k;rw [B]at s;refine⟨S.fr.trans f (fun c g=>?_),⟨d,w,l',rfl,E,(by rw [B]at D;exact s.perm D),fun x y=>?_,.inr ⟨A,j,rfl,R'⟩⟩⟩
   . rcases g with rfl|rfl<;>exact .inl (by simp)
   . have:=D.mem_iff.1 y;rcases List.mem_or_eq_of_mem_set this with h|rfl
     . exact hlt x h
     . rw [B];exact X
end
section
variable{h0:Hp}{F:List Nat}{p:Value}{N:Nat}{K:Nat->Option Int}
theorem ut(ok:OZ h0)(H:cF h0 F p N K)(hN:N<=1000):Ret zM 200 [p] h0 fun r h'=>(r=.tuple #[.int .i64 0,.int .i64 0,.bool false]/\(∀v,K v=none)/\Gr h0 h')\/ ∃v k,r=.tuple #[.int .i64 (v:Nat),.int .i64 k,.bool true]/\K v=some k/\(∀u k',K u=some k'->k<k'\/(k=k'/\v<=u))/\Mo (· ∈F) h0 h'/\cF h' F p N (dw K v none):=by
 obtain⟨m,B,O⟩:=uc ok H;obtain⟨d,D,l,rfl,ho,t,hlt,hx⟩:=H.ex;have aL:=xS t hlt;by_cases E:m=0
 . subst E;have S:=Si ok;refine erA (n:=55) (rs:=[.tmp 2,.tmp 3,.tmp 4]) Tryz.e200 ?_;simp only [BZ,seval];refine ae (B) ?_;intro h g;replace S:=S.call g;simp only [BZ,aa,Xb,seval];exact .inl ⟨O.1 rfl,S.gr⟩
 . have ad: ¬((m:Int)=0):=(by omega);rcases hx with⟨rfl,_⟩|⟨y,cap,rfl,R⟩
   . exact absurd (O.2 t.nil) E
   . have a:0<l.length:=by
      cases l with
      |nil=>exact absurd (O.2 t.nil) E|cons x l=>simp
     have S:=Si ok;refine erA (n:=55) (rs:=[.tmp 2,.tmp 3,.tmp 4]) Tryz.e200 ?_;simp only [BZ,seval];refine ae (B) ?_;intro h g;replace S:=S.call g;replace R:=R.gr g;clear g;have g0:=S.gr;clear S;obtain⟨cs,es,c,f,z,G,C,MI,IF⟩:=R.ex;have r0:=R.row.load1 (o:=0) rfl;have l2:=C.ld2 z a;have S:=Si g0.ok;have i0:i6 (.int .i64 0) l.length=some 0:=iQ (i:=0) a;have w1:am .i64 ((l.length:Int)-1)=((l.length-1:Nat):Int):=(by rw [wrap64]<;>omega);simp only [BZ,ad,seval];refine ao (jG (ord:=[14,0,1,2,3,4,5,6,7,8,9,10,11,12,13,15,16]) rfl rfl (by simp only [dW,ou,eX,Yp,Yq,List.map_toArray,XJ,Yk,cond_true,cond_false,seval];exact rfl)) (q:=1) (ps:=[(13,15),(12,15)]) (by kernel_rfl) ?_;simp only [BZ,cls,seval];refine cV au S ?_;clear S;intro h s S ax ay;simp only [BZ,cls,S.old r0 (fun h=>h),S.old l2 (fun h=>h),i0,w1,seval];refine cJ (stA S (i:=0) Tryz.t323.2.1) ?_;clear S;rintro h ⟨S,mo⟩;clear mo;simp only [LC,ac,lay,Xd,Xe,seval]at S;simp only [BZ,cls,S.old r0 (fun h=>h),S.old l2 (fun h=>h),seval];have g1:=S.gr;have R1:=R.gr g1;have Y:=S.lds (b:=s) (o:=0) (n:=2) m0 (lbt rfl);have A:=R.lt g0.ok;have nb:s≠d:=fun e=>(by have:=A d (.inl rfl);omega);have P:s≠y:=fun e=>(by have:=A y (.inr (.inl rfl));omega);refine⟨by simp only [aI,aO,aF,aK,aH,ne_eq,not_false_eq_true,aU,aY,aN,aJ,bw,bN,aD,XA,ah,hZ,tT,cS nb,cS nb.symm,cS P,cS P.symm,seval],?_⟩;have sw:Ret zM 250 [ptrTo d,.int .i64 0,.int .i64 ((l.length-1:Nat):Int)] _ _:=wY S.ok R1 (i:=0) (k:=l.length-1) a (by omega);refine step_ret sw ?_
     --refine step_ret (wY S.ok R1 (i := 0) (k := l.length - 1) a (by omega)) ?_
     rintro r I ⟨Z,L⟩;have gg:Gr h0 h:=g0.trans g1;have mA:Mo (· ∈[d,y,D]) h0 I:=(gg.fr (M:=(· ∈[d,y,D]))).trans Z (fun c t=>.inl (by rcases t with rfl|rfl<;>simp));have J:I.load s 0 2=some [.int .i64 (l.getD 0 default).id,.int .i64 (l.getD 0 default).key]:=(by have:=Z.get s (aV Z.ok0 Y) (fun hM=>by have:=A s (.inr hM);omega);unfold Hp.load at Y⊢;rw [this];exact Y);have a0:=L.lt mA.ok;have af:=mA.ok;have Q:=aV mA.ok J;clear S R R1 Z sw z G C MI IF Y l2 r0;obtain⟨cs,es,c,f,z,G,C,MI,IF⟩:=L.ex;have S:=St.init3 (M:=(· ∈[d,y,D])) (h:=I) af (o1:=.row cs 1) (o2:=.row _ 1) (o3:=.map es c) z L.row G L.ne.1.symm L.ne.2.2 L.ne.2.1 (by simp) (by simp) (by simp);have sl:=Dx (kd:=.i64) (b:=y) (len:=(sw l 0 (l.length-1)).length) (n:=l.length-1) Tryz.t321.1 Tryz.t330.2.1 (cap:=cap) (by have:=C.le;rw [jr]at this;omega);simp only [BZ,XN,Yg,sl,S.ld (b:=d) (o:=0) m1 rfl,S.ld (b:=d) (o:=1) m1 rfl,seval];refine az (aA S (i:=1) rfl ?_ ?_ ?_ ono) ?_
     . exact(by simp only [FA0])
     . exact(by exact bH)
     . exact Xc (lbt rfl)
     clear S;rintro h ⟨S,mo⟩;clear mo;simp only [LC,ac,lay,Xd,Xe,seval]at S;simp only [BZ,S.ld (b:=d) (o:=0) m1 rfl,S.ld (b:=d) (o:=1) m1 rfl];refine ao (av rfl) (q:=0) (ps:=[]) (by kernel_rfl) ?_;have T: ¬s∈[d,y,D]:=fun O=>(by have:=A s (by simpa using O);omega);have U:I.load s 0 1=some [.int .i64 (l.getD 0 default).id]:=(by have:=rM J (i:=0) (m:=1) (by omega);simpa using this);have ai:I.load s 1 1=some [.int .i64 (l.getD 0 default).key]:=(by have:=rM J (i:=1) (m:=1) (by omega);simpa using this);simp only [BZ,cls,S.old U T,S.ld (b:=d) (o:=1) m1 rfl,seval];refine dn_del (S.mdelI (i:=2) rfl Tryz.t230.1 Tryz.t3.1 MI) ?_;clear S;rintro h ⟨_,a1,c',ak,S⟩;simp only [LC]at S;simp only [BZ,seval];have V:(sw l 0 (l.length-1)).length=l.length:=jr _ _ _;have w:=jX l (i:=0) (k:=l.length-1) a (by omega) (l.length-1);rw [if_pos rfl]at w;have W:=IF.cut (m:=l.length-1) (by omega);rw [w]at W;have tl:((sw l 0 (l.length-1)).take (l.length-1)).length=l.length-1:=(by rw [XM,V];omega);have R3:ii h d y D cap N ((sw l 0 (l.length-1)).take (l.length-1)):=S.rowS (C.take _) tl.symm ak W;have dn:Ret zM 251 [ptrTo d,.int .i64 0] h _:=down_ok S.ok R3 (i:=0) (by
      by_cases e:l.length-1=0
      . exact .inr ⟨List.length_eq_zero_iff.1 (by rw [tl,e]),rfl⟩
      . exact .inl (by omega)) (by omega) (heap_pop ho a)
     refine step_ret dn ?_;rintro r h ⟨fB,l',R',pm,al⟩;have mB:Mo (· ∈[d,y,D]) I h:=S.fr.trans fB (fun c t=>.inl (by rcases t with rfl|rfl<;>simp));have X: ∀{o x},I.load s o 1=some x->h.load s o 1=some x:=fun e=>(by have:=mB.get s Q T;unfold Hp.load at e⊢;rw [this];exact e);simp only [BZ];refine ao (av rfl) (q:=0) (ps:=[]) (by kernel_rfl) ?_;simp only [BZ,cls,aa,X U,X ai,seval];refine .inr ⟨(l.getD 0 default).id,(l.getD 0 default).key,rfl,t.at a,fun u k' hu=>?_,mA.trans mB (fun c t=>.inl t),⟨d,D,l',rfl,al,(t.pop a).perm pm,fun x hx=>?_,.inr ⟨y,cap,rfl,R'⟩⟩⟩
     . obtain⟨j,hj,e⟩:=t.idx hu;have:=C3 ho j hj;rw [e]at this;unfold Ab.hle at this;simp only []at this;omega
     . exact hlt x ((wD l a (by omega)).mem_iff.1 (Yy (pm.mem_iff.1 hx)))
end
structure Ev where
 kind:Nat
 id:Nat
 lab:Nat
def iM(e:Ev):List Value:=[.int .i64 e.kind,.int .i64 0,.int .i64 e.id,.int .i64 e.lab]
theorem ru(e:Ev):(iM e).length=4:=rfl
structure SS where
 K:Nat->Option Int
 L:Nat->Nat
 P:Nat->List Nat
 O:List Nat
 ev:List Ev
variable{σ:SS}
structure Fd where
 dist:Nat
 arcs:List Nat
 ev:List Ev
def og(K:Nat->Option Int)(v:Nat)(k:Int):Prop:=K v=some k/\ ∀u a,K u=some a->k<a\/(k=a/\v<=u)
theorem og.uniq{k k':Int}(h:og K v k)(g:og K u k'):v=u/\k=k':=by have a:=h.2 _ _ g.1;have b:=g.2 _ _ h.1;omega
def ng(P:Nat->List Nat)(v:Nat)(l:List Nat):Nat->List Nat:=fun u=>if u=v then l else P u
def ir(pi:Nat->Int)(σ:SS)(v lab:Nat)(p:List Nat):SS:=
 if v∈σ.O\/(FAR:Int)<=pi v\/((σ.K v).isSome=true/\σ.L v<=lab)then σ else⟨dw σ.K v (some (lab+pi v)),d9 σ.L v lab,ng σ.P v p,σ.O,σ.ev⟩
def d6(σ:SS)(v:Nat):SS:=⟨dw σ.K v none,σ.L,σ.P,σ.O++[v],σ.ev++[⟨0,v,σ.L v⟩]⟩
def evS(σ:SS)(e:Ev):SS:=⟨σ.K,σ.L,σ.P,σ.O,σ.ev++[e]⟩
def scan1(A:List Arc)(al:Nat->Bool)(pi:Nat->Int)(v:Nat)(σ:SS)(a:Nat):SS:=
 if al a=true then ir pi (evS σ ⟨1,a,0⟩) (A.getD a default).t (σ.L v+(A.getD a default).w) (a::σ.P v)else σ
def pX(A:List Arc)(al:Nat->Bool)(pi:Nat->Int)(v:Nat)(σ:SS):SS:=(outs A Arc.s A.length v).foldl (scan1 A al pi v) σ
def jY(pi:Nat->Int)(s:Nat):SS:=ir pi ⟨fun _=>none,fun _=>0,fun _=>[],[],[]⟩ s 0 []
inductive Ends(A:List Arc)(al:Nat->Bool)(pi:Nat->Int)(to:Nat):SS->Fd->Prop where
 |none {σ:SS}:(∀v,σ.K v=none)->Ends A al pi to σ ⟨FAR,[],σ.ev⟩
 |hit {σ:SS} {k:Int}:og σ.K to k->Ends A al pi to σ ⟨σ.L to,(σ.P to).reverse,(d6 σ to).ev⟩
 |step {σ:SS} {v:Nat} {k:Int} {r:Fd}:og σ.K v k->v≠to->Ends A al pi to (pX A al pi v (d6 σ v)) r->Ends A al pi to σ r
section
variable{A:List Arc}{N s:Nat}{al:Nat->Bool}{pi:Nat->Int}{σ:SS}
structure Sv(A:List Arc)(N s:Nat)(al:Nat->Bool)(pi:Nat->Int)(σ:SS):Prop where
 nd:σ.O.Nodup
 lt: ∀v∈σ.O,v<N
 op: ∀v k,σ.K v=some k->v<N/\v∉σ.O/\pi v<(FAR:Int)/\k=σ.L v+pi v
 bd: ∀v,σ.L v<=σ.O.length*cg/\(σ.P v).length<=σ.O.length
 pc: ∀v∈σ.O,pi v<(FAR:Int)
 path: ∀v,(v∈σ.O\/σ.K v≠none)->(v=s/\σ.P v=[]/\σ.L v=0)\/ ∃a,a<A.length/\al a=true/\(A.getD a default).t=v/\(A.getD a default).s∈σ.O/\σ.P v=a::σ.P (A.getD a default).s/\σ.L v=σ.L (A.getD a default).s+(A.getD a default).w
theorem Sv.len(h:Sv A N s al pi σ):σ.O.length<=N:=pM N σ.O h.nd h.lt
theorem Sv.evS(h:Sv A N s al pi σ)(e:Ev):Sv A N s al pi (evS σ e):=⟨h.nd,h.lt,h.op,h.bd,h.pc,h.path⟩
theorem xf(b:s<N):Sv A N s al pi (jY pi s):=by
 unfold jY ir;have z:Sv A N s al pi ⟨fun _=>none,fun _=>0,fun _=>[],[],[]⟩:=
  ⟨.nil,fun v h=>(by cases h),fun v k h=>(by cases h),fun v=>⟨XP _,XP _⟩,fun v h=>(by cases h),fun v h=>h.elim (fun h=>by cases h) (fun h=>absurd rfl h)⟩
 split
 . exact z
 . rename_i a;simp only [not_or]at a;refine⟨.nil,fun v h=>(by cases h),fun v k h=>?_,fun v=>⟨?_,?_⟩,fun v h=>(by cases h),fun v h=>?_⟩
   . grind[dw,d9]
   . simp only [d9];split<;>simp
   . simp only [ng];split<;>simp
   . by_cases e:v=s
     . subst e;exact .inl ⟨rfl,by simp [ng],by simp [d9]⟩
     . simp [dw,e]at h
structure oK(σ τ:SS):Prop where
 O:τ.O=σ.O
 L: ∀u∈σ.O,τ.L u=σ.L u
 P: ∀u∈σ.O,τ.P u=σ.P u
theorem oK.refl:oK σ σ:=⟨rfl,fun _ _=>rfl,fun _ _=>rfl⟩
theorem oK.trans{τ b:SS}(h:oK σ τ)(g:oK τ b):oK σ b:=
 ⟨g.O.trans h.O,fun u a=>(g.L u (by rw [h.O];exact a)).trans (h.L u a),fun u a=>(g.P u (by rw [h.O];exact a)).trans (h.P u a)⟩
theorem Sv.reach(h:Sv A N s al pi σ){p:List Nat}(o:a<A.length)(d:al a=true)(r:(A.getD a default).t=v)(C:v<N)(f:(A.getD a default).s∈σ.O)(t:lab=σ.L (A.getD a default).s+(A.getD a default).w)(w:p=a::σ.P (A.getD a default).s)(b1:lab<=σ.O.length*cg)(b2:p.length<=σ.O.length):Sv A N s al pi (ir pi σ v lab p)/\oK σ (ir pi σ v lab p):=by
 unfold ir
 split
 . exact⟨h,.refl⟩
 . rename_i j;simp only [not_or]at j;obtain⟨x,D,E⟩:=j;have q: ∀u∈σ.O,u≠v:=fun u c e=>x (by grind);refine⟨⟨h.nd,h.lt,fun u k g=>?_,fun u=>⟨?_,?_⟩,h.pc,fun u c=>?_⟩,⟨rfl,fun u c=>by simp [d9,q u c],fun u c=>by simp [ng,q u c]⟩⟩
   . simp only [dw,d9]at g⊢
     split at g
     . grind
     . rename_i e;rw [if_neg e];exact h.op u k g
   . simp only [d9];split
     . exact b1
     . exact(h.bd u).1
   . simp only [ng];split
     . exact b2
     . exact(h.bd u).2
   . have y:d9 σ.L v lab (A.getD a default).s=σ.L (A.getD a default).s:=if_neg (q _ f);have z:ng σ.P v p (A.getD a default).s=σ.P (A.getD a default).s:=if_neg (q _ f);by_cases e:u=v
     . subst e;refine .inr ⟨a,o,d,r,f,?_,?_⟩
       . show ng σ.P u p u=a::ng σ.P u p (A.getD a default).s;rw [z,<-w];exact if_pos rfl
       . show d9 σ.L u lab u=d9 σ.L u lab (A.getD a default).s+(A.getD a default).w;rw [y,<-t];exact if_pos rfl
     . have i:u∈σ.O\/σ.K u≠none:=(by simpa [dw,e]using c);rcases h.path u i with⟨l,m,n⟩|⟨b,l,m,n,B,F,G⟩
       . grind[ng,d9]
       . refine .inr ⟨b,l,m,n,B,?_,?_⟩
         . simp_all[ng,if_neg]
         simp_all[d9,if_neg]
theorem Sv.close(h:Sv A N s al pi σ){k:Int}(i:σ.K v=some k):Sv A N s al pi (d6 σ v):=by
 obtain⟨x,j,y,z⟩:=h.op v k i;have l:(σ.O++[v]).length*cg=σ.O.length*cg+cg:=by grind
 refine⟨?_,fun u f=>?_,fun u m f=>?_,fun u=>⟨?_,?_⟩,fun u f=>?_,fun u f=>?_⟩
 . show(σ.O++[v]).Nodup;rw [XI];exact⟨h.nd,by simp,fun a B b C e=>j (by grind)⟩
 . rcases List.mem_append.1 f with f|f
   . exact h.lt u f
   grind
 . simp only [d6,dw]at f⊢
   split at f
   . cases f
   . rename_i e;obtain⟨a,b,c,d⟩:=h.op u m f;grind
 . show σ.L u<=(σ.O++[v]).length*cg;rw [l];have:=(h.bd u).1;omega
 . show(σ.P u).length<=(σ.O++[v]).length;have:=(h.bd u).2;simp;omega
 . rcases List.mem_append.1 f with f|f
   . exact h.pc u f
   grind
 . have g:u∈σ.O\/σ.K u≠none:=by
    by_cases e:u=v
    . grind
    . simpa [d6,dw,e]using f
   rcases h.path u g with n|⟨b,o,p,q,r,t,w⟩
   . exact .inl n
   . exact .inr ⟨b,o,p,q,Xv _ r,t,w⟩
def Room(σ:SS)(v:Nat):Prop:=v∈σ.O/\σ.L v+cg<=σ.O.length*cg/\(σ.P v).length+1<=σ.O.length
theorem Room.keeps{τ:SS}(r:Room σ v)(k:oK σ τ):Room τ v:=by obtain⟨a,b,c⟩:=r;exact⟨by rw [k.O];exact a,by rw [k.O,k.L v a];exact b,by rw [k.O,k.P v a];exact c⟩
theorem Sv.room(h:Sv A N s al pi σ)(v:Nat):Room (d6 σ v) v:=by
 have:=h.bd v;refine⟨XH _ (by simp),?_,?_⟩
 . show σ.L v+cg<=(σ.O++[v]).length*cg;rw [Xu,Yb,Nat.succ_mul];omega
 . show(σ.P v).length+1<=(σ.O++[v]).length;simp;omega
theorem Sv.scan1(h:Sv A N s al pi σ)(d: ∀a∈A,a.t<N/\a.w<=cg){v a:Nat}(r:Room σ v)(e:a<A.length)(f:(A.getD a default).s=v):Sv A N s al pi (scan1 A al pi v σ a)/\oK σ (scan1 A al pi v σ a):=by
 unfold Ab.scan1
 split
 . rename_i b;obtain⟨g,l,i⟩:=r;have j:=d (A.getD a default) (by grind);subst f;obtain⟨k,c⟩:=(h.evS ⟨1,a,0⟩).reach (p:=a::σ.P (A.getD a default).s) (lab:=σ.L (A.getD a default).s+(A.getD a default).w) e b rfl j.1 g rfl rfl (by show _<=σ.O.length*cg;omega) (by show(σ.P _).length+1<=σ.O.length;exact i);exact⟨k,⟨c.O,c.L,c.P⟩⟩
 . exact⟨h,.refl⟩
theorem Sv.scanL(d: ∀a∈A,a.t<N/\a.w<=cg){v:Nat}: ∀(l:List Nat) {σ:SS},Sv A N s al pi σ->Room σ v->(∀a∈l,a<A.length/\(A.getD a default).s=v)->Sv A N s al pi (l.foldl (Ab.scan1 A al pi v) σ)/\oK σ (l.foldl (Ab.scan1 A al pi v) σ)
 | [],_,h,_,_=>⟨h,.refl⟩| a::l,σ,h,r,c=>by obtain⟨f,e⟩:=h.scan1 d r (c a (by simp)).1 (c a (by simp)).2;obtain⟨g,i⟩:=Sv.scanL d l f (r.keeps e) (fun b j=>c b (by simp [j]));exact⟨g,e.trans i⟩
theorem Sv.next(h:Sv A N s al pi σ)(b: ∀a∈A,a.t<N/\a.w<=cg){k:Int}(c:σ.K v=some k):Sv A N s al pi (pX A al pi v (d6 σ v))/\oK (d6 σ v) (pX A al pi v (d6 σ v)):=
 Sv.scanL b _ (h.close c) (h.room v) (fun _ d=>jU.1 d)
def InH(A:List Arc)(al:Nat->Bool)(pi:Nat->Int)(a:Nat):Prop:=al a=true/\pi (A.getD a default).s<(FAR:Int)/\pi (A.getD a default).t<(FAR:Int)
instance (a:Nat):Decidable (InH A al pi a):=by unfold InH;infer_instance
end
def lz(E:Env)(g:FuncId)(a post:List Value)(h0:Hp)(D:Nat->Prop)(xs:List (List Value)):Prop:=
 ∀b J Z,(∀v h,¬Z (.pan v) h)->Yld E b J Z xs-> ∀h F,ItS h0 D h F->J 0 h F->eB E g (a++[.func (.yield b) #[] #[]]++post) none h (YQ J Z xs.length)
theorem iter_useN{a post:List Value}{xs:List (List Value)}(H:lz E g a post h0 D xs){Z:Out->Hp->Prop}(i: ∀v h,¬Z (.pan v) h)(Y:Yld E c J Z xs)(d:Mo (fun b=> ¬D b) h0 h)(j: ∀b∈F,b<h0.n-> ¬D b)(f:J 0 h F):eB E g (a++[.func (.yield c) #[] #[]]++post) none h (YQ J Z xs.length):=
 H c J Z i Y h F ⟨d.ok,d.n,fun b e k=>d.get b e (fun l=>l k),fun b e h=>j b e h.1 h.2,(Y.lt 0 h F f).2⟩ f
theorem dn_yield{Q:gH}{a:List Oper}{k:List Fr}{l:Loc}{d:Hp->List (Nat×Tch)}{e:Nat}{Z:Out->Hp->Prop}{xs:List (List Value)}{x:List Value}(t: ∀v h,¬Z (.pan v) h)(Y:Yld E e J Z xs)(s:ItS h0 D h F)(f:J j h F)(g:xs[j]? =some x)(m: ∀h' F',J (j+1) h' F'->ItS h0 D h' F'->Mo (· ∈F) h h'->(∀b∈F',b∈F\/h.n<=b)->Run E (lim E) cx Q (.opsD a q ps os (i+1) (d h')::k) .normal (l.put o.dst (.bool true)) h')(k2: ∀h',Z (.ret (.bool false)) h'->OZ h'->Run E (lim E) cx Q (.opsD a q ps os (i+1) (d h')::k) .normal (l.put o.dst (.bool false)) h'):DN E cx Q a q ps o os i k l d (some (.yield e x,h)):=by
 obtain⟨n,h',p,r⟩:=Y.round j x h F g f;refine⟨n,h',p,?_⟩;rcases r with⟨rfl,F',a,b,c⟩|⟨rfl,a,b⟩|⟨⟨v,rfl⟩,a⟩
 . exact m h' F' a (s.mo b c (Y.lt _ _ _ a).2) b c
 . exact k2 h' a b
 grind
def eZ(h h':Hp):Prop:= ∀b,b<h.n->h'.get b=h.get b
theorem eZ.load{h h':Hp}(a:OZ h)(g:eZ h h'){b o n:Nat}{l:List Value}(e:h.load b o n=some l):h'.load b o n=some l:=by have:=g b (aV a e);grind[Hp.load]
theorem eZ.row(a:OZ h)(g:eZ h h'){l:List Value}(r:Row h b l md):Row h' b l md:=Row.of_get (g b (r.lt a)) r
theorem aw.keep{a:Type}{enc:a->List Value}{v:Value}{xs:List a}(d:OZ h)(g:eZ h h')(s:aw h k enc v xs):aw h' k enc v xs:=by
 rcases s with s|⟨b,o,s,c,e,f,i⟩
 . exact .inl s
 . exact .inr ⟨b,o,s,c,e,f,g.load d i⟩
theorem iU.keep{h h':Hp}{v:Value}{m N:Nat}{R:Nat->List Nat}(d:OZ h)(g:eZ h h')(r:iU h m v N R):iU h' m v N R:=by
 obtain⟨e,f,j,k,l,n,o⟩:=r;exact⟨e,f,j,k,g.row d l,n,fun i p=>by
  obtain⟨w,a,b,c⟩:=o i p;exact⟨w,a,b.keep d g,c⟩⟩
theorem aP.keep{h h':Hp}{m:Nat}{p:Value}{d:Gra}(a:OZ h)(g:eZ h h')(n:aP h m p d):aP h' m p d:=by obtain⟨b,e,f,i,j,k,l,o,c,q,r,s,t⟩:=n.ex;exact⟨b,e,f,i,j,k,l,g.row a o,⟨c.X.keep a g,c.Y.keep a g,c.A.keep a g⟩,q.keep a g,r.keep a g,s,t⟩
theorem Gr.keep(g:Gr h h'):eZ h h':=g.get
theorem eZ.trans{a b c:Hp}(x:eZ a b)(n:a.n<=b.n)(y:eZ b c):eZ a c:=fun i d=>(y i (XT d n)).trans (x i d)
theorem ItS.keep(s:ItS h0 D h F)(g:eZ hq h0)(n:hq.n<=h0.n)(d: ∀c,c<hq.n->D c):eZ hq h:=fun b a=>(s.data b (XT a n) (d b a)).trans (g b a)
theorem zz{n:Int}(a:0<=n)(b:n<18446744073709551616):am .u64 n=n:=by obtain⟨m,rfl⟩:=Int.eq_ofNat_of_zero_le a;grind[am,hf,sgn,pw,Nat.blt,Nat.blt_eq]
theorem b_andU{t:TypeId}{x:Operand}(h:N<4294967296):ce E .and t x y (.int .u64 (N:Int)) (.int .u64 4294967295)=some (.int .u64 (N:Int)):=by
 have a:Nat.blt N 18446744073709551616=true:=by rw [Nat.blt_eq];omega
 have b:Nat.land N 4294967295=N:=by have:=Nat.and_two_pow_sub_one_eq_mod N 32;simp_all
 have c:=zz (n:=(N:Int)) (by omega) (by omega);have e4:jL .and .u64 (.ofNat N) (.ofNat 4294967295)=some (am .u64 (.ofNat (Nat.land N 4294967295))):=by simp only [jL,pw];rw [a];rfl
 show(jL .and .u64 (.ofNat N) (.ofNat 4294967295)).map _=_;grind
theorem b_shrU{t:TypeId}{x:Operand}(h:N<4294967296):ce E .shr t x y (.int .u64 (N:Int)) (.int kd 32)=some (.int .u64 0):=by
 have e:N/Nat.pow 2 (bif X9 32 (bitsOf .u64)then 32 else bitsOf .u64)=0:=by show N/4294967296=0;omega
 show(uJ .shr .u64 (.ofNat N) (.ofNat 32)).map _=_;show some (Value.int .u64 (.ofNat (N/Nat.pow 2 (bif X9 32 (bitsOf .u64)then 32 else bitsOf .u64))))=_;rw [e];rfl
theorem jR(i:OZ h0){d:Type}{enc:d->List Value}(j: ∀x,(enc x).length=1){v:Value}{xs:List d}(k:aw h0 1 enc v xs)(t:xs.length<1000000):Ret zM 81 [v] h0 fun r h'=>Gr h0 h'/\aw h' 1 enc r xs/\ ∀c,ar r c->h0.n<=c:=by
 have S:=Si i;rcases k with⟨rfl,rfl⟩|⟨b,o,s,c,rfl,l,m⟩
 . refine erA (n:=8) (rs:=[.tmp 2]) Tryz.e81 ?_;simp only [BZ,aa,seval];exact⟨S.gr,.inl ⟨rfl,rfl⟩,fun c a=>a.elim⟩
 . refine erA (n:=8) (rs:=[.tmp 2]) Tryz.e81 ?_;simp only [BZ,seval];refine ab (bZ (by exact Tryz.t41.1) (by exact Tryz.e3E) (by decide) (by rfl)) S ?_;clear S;intro h u S f;simp only [LC,bJ,cd,ac,Xm,Xi,Xj,Xp,seval]at S;simp only [BZ,seval];refine dT (S.cloneSl (enc:=enc) (xs:=[]) Tryz.t41.1 Tryz.e3E (by decide) Tryz.t41.2.2.2.2.2 (.inr ⟨b,o,s,c,rfl,l,S.old m (fun h=>h)⟩) j (by decide) (by simp only [Ye,Xi];omega) (S.row m0)) ?_;rintro h' v ⟨p,g,q,a⟩;simp only [BZ,aa,seval];refine⟨p.gr,by simpa using q,fun c h=>(a c h).elim (fun e=>by omega) (fun e=>Xk S.fr.n e)⟩
theorem bC(d:OZ h0){a:Gra}{e:Nat}(c:aP h0 e p a):aQ zM 10 [p] h0 (.int .i64 a.nodes):=by have S:=Si d;obtain⟨b,g,h,i,j,k,rfl,r,_⟩:=c.ex;have f:=r.load1 (o:=0) rfl;refine erA (n:=10) (rs:=[.tmp 2]) Tryz.e10 ?_;simp only [BZ,aa,f,seval];exact S.gr
theorem oneArc_ok(g:OZ h0){v:Value}{A:List Arc}(e:aw h0 3 cQ v A)(j:i<A.length):Ret zM 220 [v,.int .i64 i] h0 fun r h'=>Gr h0 h'/\r=.tuple #[.agg ⟨cQ A[i]⟩,.bool true]:=by
 have S:=Si g;have k: ¬((i:Int)<0):=by omega
 have l: ¬((A.length:Int)<=(i:Int)):=by omega
 refine erA (n:=19) (rs:=[.cell 4 135,.tmp 5]) Tryz.e220 ?_;simp only [BZ];refine ab au S ?_;clear S;intro h m S f;obtain⟨c,o,a,d⟩:=(e.gr S.gr).ix (kd:=.i64) jS j;simp only [BZ,e.lenq,k,l,a,d,seval];refine az (stA S (i:=0) Tryz.t135.2.1) ?_;clear S;rintro h ⟨S,p⟩;clear p;simp only [LC,ac,lay,Xd,Xe,seval]at S;simp only [BZ,aa,cQ];refine(bD (by decide) (by simp only [aD,ah,seval];exact bI Tryz.t135.1 Tryz.t135.2.1 (S.lds (b:=m) (o:=0) (n:=3) m0 (lbt rfl)))).2 ?_;refine(dP (by decide)).2 (cu.2 ?_);exact⟨S.gr,rfl⟩
theorem AH(c:OZ h0){v:Value}(d:iU h0 m v N R)(a:i<N):Ret zM 206 [v,.int .i64 i] h0 fun r h'=>Gr h0 h'/\ ∃w,r=.tuple #[w,.bool true]/\aw h' 1 bM w (R i):=by
 have S:=Si c;obtain⟨o,p,rfl,_,f,b,g⟩:=d;obtain⟨w,e,h,_⟩:=g i a;have j:=f.load1 e;have k: ¬((i:Int)<0):=by omega
 have l: ¬((N:Int)<=(i:Int)):=by omega
 refine erA (n:=19) (rs:=[.tmp 4,.tmp 5]) Tryz.e206 ?_;simp only [BZ,aa,k,l,a,j,seval];exact⟨S.gr,_,rfl,h⟩
theorem jb(e:OZ h0){a:Gra}{f:Nat}(c:aP h0 f p a)(j:i<a.arcs.length):Ret zM 161 [p,.int .i64 i] h0 fun r h'=>Gr h0 h'/\r=.tuple #[.agg ⟨cQ a.arcs[i]⟩,.bool true]:=by have S:=Si e;obtain⟨b,s,t,u,w,x,rfl,r,k,_⟩:=c.ex;have l:=r.load1 (o:=3) rfl;refine erA (n:=18) (rs:=[.cell 4 135,.tmp 5]) Tryz.e161 ?_;simp only [BZ];refine ab au S ?_;clear S;intro h m S d;simp only [BZ,S.old l (fun h=>h),seval];refine step_ret (oneArc_ok S.ok (k.A.gr S.gr) j) ?_;rintro v h ⟨g,rfl⟩;replace S:=S.call g;simp only [BZ,cQ,seval];refine az (stA S (i:=0) Tryz.t135.2.1) ?_;clear S;rintro h ⟨S,q⟩;clear q;simp only [LC,ac,lay,Xd,Xe,seval]at S;simp only [BZ,aa,seval];refine(bD (by decide) (by simp only [aD,ah,seval];exact bI Tryz.t135.1 Tryz.t135.2.1 (S.lds (b:=m) (o:=0) (n:=3) m0 (lbt rfl)))).2 ?_;refine(dP (by decide)).2 (cu.2 ?_);exact⟨S.gr,rfl⟩
theorem vU(e:OZ h0){a:Gra}{f:Nat}(c:aP h0 f p a)(j:a.arcs.length<1000)(k:i<a.nodes):Ret zM 129 [p,.int .i64 i] h0 fun r h'=>Gr h0 h'/\aw h' 1 bM r (outs a.arcs Arc.s a.arcs.length i)/\ ∀c,ar r c->h0.n<=c:=by have S:=Si e;obtain⟨b,t,u,x,y,z,rfl,r,A,l,B,_⟩:=c.ex;have m:=r.load1 (o:=4) rfl;refine erA (n:=20) (rs:=[.tmp 4]) Tryz.e129 ?_;simp only [BZ,m,seval];refine step_ret (AH S.ok l k) ?_;rintro v h ⟨g,w,rfl,d⟩;replace S:=S.call g;simp only [BZ,seval];have q:=S.fr.n;have s:=jQ a.arcs Arc.s a.arcs.length i;refine step_ret (jR S.ok dr d (by omega)) ?_;intro v h ⟨g,d,hc⟩;replace S:=S.call g;simp only [BZ,aa,seval];exact⟨S.gr,d,fun c h=>Xk q (hc c h)⟩
theorem xV(e:OZ h0){a:Gra}{f:Nat}(c:aP h0 f p a)(j:a.arcs.length<1000)(k:i<a.nodes):Ret zM 131 [p,.int .i64 i] h0 fun r h'=>Gr h0 h'/\aw h' 1 bM r (outs a.arcs Arc.t a.arcs.length i)/\ ∀c,ar r c->h0.n<=c:=by have S:=Si e;obtain⟨b,t,u,x,y,z,rfl,r,A,B,l,_⟩:=c.ex;have m:=r.load1 (o:=5) rfl;refine erA (n:=20) (rs:=[.tmp 4]) Tryz.e131 ?_;simp only [BZ,m,seval];refine step_ret (AH S.ok l k) ?_;rintro v h ⟨g,w,rfl,d⟩;replace S:=S.call g;simp only [BZ,seval];have q:=S.fr.n;have s:=jQ a.arcs Arc.t a.arcs.length i;refine step_ret (jR S.ok dr d (by omega)) ?_;intro v h ⟨g,d,hc⟩;replace S:=S.call g;simp only [BZ,aa,seval];exact⟨S.gr,d,fun c h=>Xk q (hc c h)⟩
theorem mul64_ok(b:OZ h0)(i:N<1000):aQ zM 272 [.int .u64 1,.int .u64 N] h0 (.tuple #[.int .u64 0,.int .u64 N]):=by have S:=Si b;have c: ∀{t x y},ce zM .and t x y (.int .u64 1) (.int .u64 4294967295)=some (.int .u64 1):=b_andU (N:=1) (by decide);have d: ∀{t x y},ce zM .and t x y (.int .u64 0) (.int .u64 4294967295)=some (.int .u64 0):=b_andU (N:=0) (by decide);have e: ∀{t x y a},ce zM .shr t x y (.int .u64 1) (.int a 32)=some (.int .u64 0):=b_shrU (N:=1) (by decide);have f: ∀{t x y a},ce zM .shr t x y (.int .u64 0) (.int a 32)=some (.int .u64 0):=b_shrU (N:=0) (by decide);have g:am .u64 (N:Int)=(N:Int):=zz (by omega) (by omega);have h:am .u64 0=0:=rfl;refine erA (n:=51) (rs:=[.tmp 4,.tmp 5]) Tryz.e272 ?_;simp only [BZ,aa,c,d,e,f,b_andU (N:=N) (by omega),b_shrU (N:=N) (by omega),Int.one_mul,Int.zero_mul,Int.mul_zero,Int.add_zero,g,h,seval];exact S.gr
theorem mul_ok(a:OZ h0)(b:N<1000):aQ zM 247 [.int .u64 1,.int .u64 N] h0 (.tuple #[.int .u64 0,.int .u64 N]):=by have S:=Si a;refine erA (n:=30) (rs:=[.tmp 4,.tmp 5]) Tryz.e247 ?_;simp only [BZ,seval];refine ae (mul64_ok S.ok b) ?_;intro h g;replace S:=S.call g;simp only [BZ,aa,seval];exact S.gr
theorem Ct{t e:TypeId}(c:E.und t=some (.slice e))(d:E.sz e=some 1)(f:n<N):iq E t (.slice (some ⟨b,0,none⟩) N N) (some (.int kd (n:Int))) none none=some (.slice (some ⟨b,n,none⟩) (N-n) (N-n)):=by
 have a: ∀n:Nat,jt (n:Int)=some n:=fun n=>rfl;have g:X7 N n=false:=by
  cases h:X7 N n with
  |false=>rfl|true=>have:=Ya h;omega
 simp only [iq,c,ie,gY,a,Xo (YG f),cond_true,d,XC,cond_false,g,iu,Xj,Xi]
theorem A8{t e:TypeId}(c:E.und t=some (.slice e))(d:E.sz e=some k)(f:n<=N):iq E t (.slice (some ⟨b,0,none⟩) N N) none (some (.int kd (n:Int))) none=some (.slice (some ⟨b,0,none⟩) n N):=by have a: ∀n:Nat,jt (n:Int)=some n:=fun n=>rfl;simp only [iq,c,ie,gY,a,Xo f,cond_true,d,XC,cond_false,iu,Xm,Nat.add_zero,Nat.sub_zero];cases X7 N 0<;>rfl
section
variable{M:Nat->Prop}{h0 h:Hp}{L:List (Nat×Ob)}{G:List GL}{E:Env}{t e:TypeId}
theorem St.copyO(S:St M h0 h L G){o len o2:Nat}{k c:Option Nat}{l:List Value}(f:L[i]? =some (b,.row cs 1))(n:E.und t=some (.slice e))(p:E.sz e=some 1)(s:0<dV m len)(g:h.load b2 o2 (dV m len*1)=some l)(d:o+l.length<=cs.length)(hf:l.all mr=true){ts:List TypeId}:
 ∃h' w,copyV E h (t::ts) (.slice (some ⟨b,o,k⟩) len cap) (.slice (some ⟨b2,o2,c⟩) m j)=some (h',w)/\w=.int .i64 (dV m len:Nat)/\St M h0 h' (L.set i (b,.row (lay cs o l) 1)) G:=by
 obtain⟨y,q,r⟩:=(S.row (Xl f)).store S.ok ono (o:=o) (vs:=l) d hf;have a:=load_len g;refine⟨h.put b y,_,?_,rfl,S.put f r⟩;simp only [copyV,n,p,g];cases l with
 |nil=>simp at a;omega|cons x u=>simp only [q];rfl
end
theorem lN(h:a<=b):dV a b=a:=by unfold dV;rw [Xo h];rfl
theorem wK(h:b<=a):dV a b=b:=by
 unfold dV;cases c:X9 a b with
 |false=>rfl|true=>have:=lbt c;show a=b;omega
theorem xh{X Z:Value}(e:c<=k):lay (Xh n X++Xh k Z) n (Xh c X)=Xh (n+c) X++Xh (k-c) Z:=by
 refine Xt fun j=>?_;rw [lS (by simp;omega),Yc,XW,XW,Yc,Yc,XK,XK,XK,XK,XK];by_cases a:j<n
 . rw [if_neg (by omega),if_pos a,if_pos a,if_pos (by omega),if_pos (by omega)]
 . by_cases b:j<n+c
   . rw [if_pos (by omega),if_pos (by omega),if_pos b,if_pos b]
   . rw [if_neg (by omega),if_neg a,if_neg b];by_cases d:j-n<k
     . rw [if_pos d,if_pos (by omega)]
     . rw [if_neg d,if_neg (by omega)]
theorem pQ(z:Value): ∀n,bJ [z] n=Xh n z
 |0=>rfl|n+1=>by simp [bJ,pQ z n,YB]
def ClF(O:List Nat)(f:Int->Option Value):Prop:= ∀u:Nat,f (u:Int)=if u∈O then some (.int .i64 1)else none
section
variable{M:Nat->Prop}{h0 h h':Hp}{L L':List (Nat×Ob)}{G G':List GL}{Fh:List Nat}
theorem St.baseF(S:St M h0 h L G)(Fh:List Nat):St (fun c=>c∈keys L G\/c∈Fh) h h L G:=
 ⟨Mo.refl S.ok,fun p a=>⟨.inr (.inl (i9 a)),(S.own p a).2⟩,fun p a=>⟨(S.gown p a).1,fun b d=>.inr (.inl (fJ a d))⟩,S.apart⟩
theorem St.rebaseF(S:St M h0 h L G)(e: ∀c∈Fh,h0.n<=c\/M c)(T:St (fun c=>c∈keys L G\/c∈Fh) h h' L' G'):St M h0 h' L' G':=by have f: ∀b,h.n<=b\/(b∈keys L G\/b∈Fh)->h0.n<=b\/M b:=fun b a=>a.elim (fun a=>.inl (Xk S.fr.n a)) (fun a=>a.elim S.key_own (e b));exact⟨S.fr.trans T.fr fun b a=>(a.elim S.key_own (e b)).symm,fun p d=>⟨f _ (T.own p d).1,(T.own p d).2⟩,fun p d=>⟨(T.gown p d).1,fun b a=>f b ((T.gown p d).2 b a)⟩,T.apart⟩
theorem St.callF(S:St M h0 h L G){o o':Ob}(l:L[i]? =some (b,o))(f:Mo (fun c=>c∈Fh\/c=b) h h')(m: ∀c∈Fh,(M c\/h0.n<=c)/\c∉keys L G)(r:Has h' b o'):St M h0 h' (L.set i (b,o')) G:=by
 have s:=S.own _ (Xl l);have g:(keys L G)[i]? =some b:=oz l;refine⟨S.fr.trans f (fun c k=>by grind),fun p a=>?_,fun p a=>⟨(S.gown p a).1.of_get fun c k=>?_,(S.gown p a).2⟩,?_⟩
 . rcases oD a with rfl|⟨j,n,a⟩
   . grind
   . have d:=S.own p (Xl a);refine⟨d.1,d.2.of_get (f.get _ (d.2.lt S.ok) fun e=>?_)⟩;rcases e with e|e
     . exact(m _ e).2 (i9 (Xl a))
     . apply n;have q:(keys L G)[j]? =some b:=(by rw [oz a];rw [e]);exact qA S.apart q g
 . refine f.get c ((S.gown p a).1.lt S.ok k) fun e=>?_;rcases e with e|e
   . exact(m _ e).2 (fJ a k)
   . subst e;have d:=S.apart;unfold keys at d;rw [XI]at d;exact d.2.2 c (List.mem_map.2 ⟨_,Xl l,rfl⟩) c (List.mem_filterMap.2 ⟨p,a,k⟩) rfl
 . have:keys (L.set i (b,o')) G=keys L G:=(by unfold keys;congr 1;rw [Yn];refine Xt fun j=>?_;grind);rw [this];exact S.apart
theorem St.stepF(S:St M h0 h L G)(f:Mo (· ∈Fh) h h')(b: ∀c∈Fh,(M c\/h0.n<=c)/\c∉keys L G):St M h0 h' L G:=
 S.step f (fun c a=>(b c a).1) (fun c a d=>(b c d).2 a)
theorem St.permL(S:St M h0 h L G)(p:L'.Perm L):St M h0 h L' G:=
 ⟨S.fr,fun x a=>S.own x (p.mem_iff.1 a),S.gown,by
  have:(keys L' G).Perm (keys L G):=(p.map XO).append_right _;exact this.nodup_iff.2 S.apart⟩
end
theorem St.mono{M M':Nat->Prop}{h0 h:Hp}{L:List (Nat×Ob)}{G:List GL}(S:St M h0 h L G)(c: ∀b,M b->M' b):St M' h0 h L G:=
 ⟨S.fr.mono c,fun p a=>⟨(S.own p a).1.imp (fun h=>h) (c _),(S.own p a).2⟩,fun p a=>⟨(S.gown p a).1,fun b d=>((S.gown p a).2 b d).imp (fun h=>h) (c _)⟩,S.apart⟩
theorem Dj.exm{B:List Arc}{D:Nat->Nat}{b:Arc->Prop}(d:Dj B s N O D K b)(h: ∀a∈B,b a->ex' a):Dj B s N O D K ex':=
 ⟨d.i1,d.i2,d.i2f,d.i3,fun a c e f=>d.i4 a c e (fun g=>f (h a c g)),d.i5,d.nd,d.lt⟩
def noteSl:Value->Option Tch
 | .map (some r)=>some (.blk r)| .slice (some a) _ _=>some (.blk a.block)|_=>none
theorem BQ{b:Bool}{x:Operand}{ts:Array TypeId}:cH ρ b (.call ⟨.builtin .append,#[x,y],ts⟩) h h'=noteSl (ρ x):=by simp only [cH,dJ,jo,eR,touch,cond_false];cases ρ x<;>first|rfl|(rename_i x;cases x<;>rfl)|(rename_i x _ _;cases x<;>rfl)
theorem pair_x{x:Option Tch}:iS x none=true:=by
 cases x with
 |none=>rfl|some b=>cases b<;>rfl
theorem entry_nl:cP i []=none:=rfl
def labC(N:Nat)(L:Nat->Nat):List Value:=(Xa N).map fun v=>.int .i64 (L v:Nat)
def byI:List Nat->Int
 | []=> -1|a::_=>(a:Nat)
def byC(N:Nat)(P:Nat->List Nat):List Value:=(Xa N).map fun v=>.int .i64 (byI (P v))
def clC(N:Nat)(O:List Nat):List Value:=(Xa N).map fun v=>.bool (decide (v∈O))
theorem wI{L:Nat->Nat}(h:v<N):(labC N L)[v]? =some (.int .i64 (L v:Nat)):=lH (F:=fun v=>Value.int .i64 ((L v:Nat):Int)) h
theorem byC_at(h:v<N):(byC N P)[v]? =some (.int .i64 (byI (P v))):=lH (F:=fun v=>Value.int .i64 (byI (P v))) h
theorem clC_at(h:v<N):(clC N O)[v]? =some (.bool (decide (v∈O))):=lH (F:=fun v=>Value.bool (decide (v∈O))) h
theorem Cb{L:Nat->Nat}:(labC N L).length=N:=by simp [labC]
theorem byC_len:(byC N P).length=N:=by simp [byC]
theorem clC_len:(clC N O).length=N:=by simp [clC]
theorem labC_set{x:Nat}{L:Nat->Nat}:(labC N L).set v (.int .i64 (x:Nat))=labC N (d9 L v x):=by have:=kW (N:=N) (k:=v) (F:=fun v=>Value.int .i64 ((L v:Nat):Int)) (F':=fun u=>Value.int .i64 ((d9 L v x u:Nat):Int)) (fun i _ a=>by simp [d9,a]);unfold labC;rw [<-this];simp [d9]
theorem byC_set{p:List Nat}:(byC N P).set v (.int .i64 (byI p))=byC N (ng P v p):=by have:=kW (N:=N) (k:=v) (F:=fun v=>Value.int .i64 (byI (P v))) (F':=fun u=>Value.int .i64 (byI (ng P v p u))) (fun i _ a=>by simp [ng,a]);unfold byC;rw [<-this];simp [ng]
theorem clC_set:(clC N O).set v (.bool true)=clC N (O++[v]):=by have:=kW (N:=N) (k:=v) (F:=fun v=>Value.bool (decide (v∈O))) (F':=fun u=>Value.bool (decide (u∈O++[v]))) (fun i _ a=>by simp [a]);unfold clC;rw [<-this];simp
def srL(br c d e N:Nat)(pn p a b vE:Value)(σ:SS):List (Nat×Ob):=
 [(br,.row [pn,p,.slice (some ⟨c,0,none⟩) N N,.slice (some ⟨d,0,none⟩) N N,.slice (some ⟨e,0,none⟩) N N,a,b,vE] 1),(c,.row (labC N σ.L) 1),(d,.row (byC N σ.P) 1),(e,.row (clC N σ.O) 1)]
def srG(vE:Value)(σ:SS):List GL:=[(vE,4,σ.ev.flatMap iM)]
def iL(h:Hp)(B:List Nat)(br:Nat)(pn a b:Value)(N:Nat)(σ:SS):Prop:=
 ∃e f g p F d,B=keys (srL br e f g N pn (ptrTo p) a b d σ) (srG d σ)++F/\(∀q∈srL br e f g N pn (ptrTo p) a b d σ,Has h q.1 q.2)/\ij h (d,4,σ.ev.flatMap iM)/\(keys (srL br e f g N pn (ptrTo p) a b d σ) (srG d σ)).Nodup/\cF h F (ptrTo p) N σ.K/\ ∀c∈F,c∉keys (srL br e f g N pn (ptrTo p) a b d σ) (srG d σ)
theorem St.ofHas(e:OZ h)(f: ∀q∈L,Has h q.1 q.2)(g: ∀p∈G,ij h p)(i:(keys L G).Nodup)(d: ∀c∈keys L G,M c):St M h h L G:=
 ⟨Mo.refl e,fun p a=>⟨.inr (d _ (i9 a)),f p a⟩,fun p a=>⟨g p a,fun b j=>.inr (d _ (fJ a j))⟩,i⟩
theorem iL.mo{M:Nat->Prop}{h h':Hp}{B:List Nat}{br N:Nat}{pn a c:Value}{σ:SS}(r:iL h B br pn a c N σ)(g:Mo M h h')(e: ∀b∈B,¬M b):iL h' B br pn a c N σ:=by obtain⟨k,l,m,p,F,f,rfl,n,i,o,s,t⟩:=r;refine⟨k,l,m,p,F,f,rfl,fun q j=>g.has (n q j) (e _ (Xv _ (i9 j))),i.of_get fun b d=>g.get b (i.lt g.ok0 d) (e b (Xv _ (fJ (p:=(f,4,σ.ev.flatMap iM)) m0 d))),o,s.mo g (fun b d=>e b (XH _ d)),t⟩
theorem iL.gr{a b:Value}(r:iL h B br pn a b N σ)(g:Gr h h'):iL h' B br pn a b N σ:=r.mo (M:=NoM) g.fr (fun _ _ h=>h)
theorem iL.lt{h:Hp}(e:OZ h){B:List Nat}{br N:Nat}{pn b d:Value}{σ:SS}(r:iL h B br pn b d N σ): ∀c∈B,c<h.n:=by
 obtain⟨l,m,n,p,F,o,rfl,f,g,i,j,q⟩:=r;intro c a;rcases List.mem_append.1 a with a|a
 . exact(St.ofHas (M:=fun _=>True) e f (fun p k=>by cases k with|head=>exact g|tail _ h=>cases h) i (fun _ _=>trivial)).key_lt a
 . exact j.lt e c a
theorem Gr.mo'(g:Gr hq h)(f:Mo (· ∈B) h h')(hB: ∀c∈B,hq.n<=c):Gr hq h':=((g.fr (M:=NoM)).trans f (fun i a=>.inr (hB i a))).gr
def PiF(E:Env)(hq:Hp)(g:FuncId)(a N:Nat)(pi:Nat->Int):Prop:= ∀h,Gr hq h-> ∀v,v<N->aQ E g [.int .i64 (v:Nat),ptrTo a] h (.int .i64 (pi v))
def AlF(E:Env)(hq:Hp)(g:FuncId)(b n:Nat)(al:Nat->Bool):Prop:= ∀h,Gr hq h-> ∀a,a<n->aQ E g [.int .i64 (a:Nat),ptrTo b] h (.bool (al a))
theorem Bd(gq:Gr hq h0){w:Nat}{p:List Nat}{x:FuncId}(R:iL h0 B br pn f (.func (.func x) #[] #[ptrTo w]) N σ)(ad:PiF zM hq x w N pi)(hN:N<=12)(j:v<N)(hl:lab<=12*cg)(hp: -(FAR:Int)<=pi v)(hk: ∀k,σ.K v=some k->k=σ.L v+pi v):Ret zM 199 [ptrTo br,.int .i64 (v:Nat),.int .i64 (lab:Nat),.int .i64 (byI p)] h0 fun _ h'=>Mo (· ∈B) h0 h'/\ ∃C,iL h' C br pn f (.func (.func x) #[] #[ptrTo w]) N (ir pi σ v lab p)/\ ∀c∈C,c∈B\/h0.n<=c:=by
 have ok:=gq.ok;have R0:=R;obtain⟨s,u,y,D,F,t,rfl,hL,hG,nd,H,X⟩:=R;have S:=St.ofHas (M:=fun c=>c∈keys (srL br s u y N pn (ptrTo D) f (.func (.func x) #[] #[ptrTo w]) t σ) (srG t σ)++F) ok hL (fun p hp=>by cases hp with|head=>exact hG|tail _ h=>cases h) nd (fun c a=>Xv _ a);have fr:=hU;have wm:=kK;have l:ir pi σ v lab p=σ-> ∀h,Gr h0 h->Mo (· ∈keys (srL br s u y N pn (ptrTo D) f (.func (.func x) #[] #[ptrTo w]) t σ) (srG t σ)++F) h0 h/\ ∃C,iL h C br pn f (.func (.func x) #[] #[ptrTo w]) N (ir pi σ v lab p)/\ ∀c∈C,c∈keys (srL br s u y N pn (ptrTo D) f (.func (.func x) #[] #[ptrTo w]) t σ) (srG t σ)++F\/h0.n<=c:=
  fun e h g=>⟨g.fr,_,by rw [e];exact R0.gr g,fun c a=>.inl a⟩
 generalize E:keys (srL br s u y N pn (ptrTo D) f (.func (.func x) #[] #[ptrTo w]) t σ) (srG t σ)++F=Y at S l;have Q: ∀c∈F,c∈Y\/h0.n<=c:=fun c a=>.inl (by rw [<-E];exact XH _ a);unfold srL srG at S;have lF:=H.lt ok;have ll:=fun {b} hb=>S.key_lt (b:=b) hb;refine erA (n:=86) (rs:=[]) Tryz.e199 ?_;simp only [BZ,S.ld (b:=br) (o:=6) m0 rfl,seval];refine ae (ad _ gq v j) ?_;intro h g;replace S:=S.call g;replace H:=H.gr g;simp only [BZ,S.ld (b:=br) (o:=1) m0 rfl,seval];refine ae (zt S.ok H) ?_;intro h' Z;replace S:=S.call Z;replace H:=H.gr Z;replace g:=g.trans Z;clear Z h;have n0:=g.n;have G:=(S.row (b:=y) m3).load1 (clC_at (O:=σ.O) j);have lL:=(S.row (b:=s) m1).load1 (wI (L:=σ.L) j);by_cases hO:v∈σ.O
 . have K:decide (v∈σ.O)=true:=decide_eq_true hO;simp only [BZ,j,G,K,S.ld (b:=br) (o:=4) m0 rfl,S.ld (b:=br) (o:=2) m0 rfl,seval];exact l (by unfold ir;rw [if_pos (.inl hO)]) _ g
 . have K:decide (v∈σ.O)=false:=decide_eq_false hO;by_cases U:(FAR:Int)<=pi v
   . have V:(72057594037927936:Int)<=pi v:=(by omega);simp only [BZ,j,G,K,V,S.ld (b:=br) (o:=4) m0 rfl,S.ld (b:=br) (o:=2) m0 rfl,seval];exact l (by unfold ir;rw [if_pos (.inr (.inl U))]) _ g
   . have V: ¬(72057594037927936:Int)<=pi v:=(by omega);have wl:am .i64 ((lab:Int)+pi v)=(lab:Int)+pi v:=(by rw [wrap64]<;>omega);have W: ¬((σ.K v).isSome=true/\σ.L v<=lab)-> ∀(h':Hp) (m:List Nat),St (· ∈Y) h0 h' [(br,.row [pn,ptrTo D,.slice (some ⟨s,0,none⟩) N N,.slice (some ⟨u,0,none⟩) N N,.slice (some ⟨y,0,none⟩) N N,f,.func (.func x) #[] #[ptrTo w],t] 1),(s,.row ((labC N σ.L).set v (.int .i64 (lab:Nat))) 1),(u,.row ((byC N σ.P).set v (.int .i64 (byI p))) 1),(y,.row (clC N σ.O) 1)] [(t,4,σ.ev.flatMap iM)]->
      cF h' m (ptrTo D) N (dw σ.K v (some ((lab:Int)+pi v)))->(∀c∈m,c∈F\/h0.n<=c)->Mo (· ∈Y) h0 h'/\ ∃C,iL h' C br pn f (.func (.func x) #[] #[ptrTo w]) N (ir pi σ v lab p)/\ ∀c∈C,c∈Y\/h0.n<=c:=by
      intro a h' m T H' d;rw [labC_set,byC_set]at T;refine⟨T.fr,keys (srL br s u y N pn (ptrTo D) f (.func (.func x) #[] #[ptrTo w]) t σ) (srG t σ)++m,?_,fun c a=>?_⟩
      . unfold ir;rw [if_neg (by simp only [not_or];exact⟨hO,U,a⟩)];refine⟨s,u,y,D,m,t,rfl,fun q hq=>(T.own q hq).2,(T.gown _ m0).1,T.apart,H',fun c a hm=>?_⟩;rcases d c a with z|z
        . exact X c z hm
        . have:=ll (b:=c) hm;omega
      . rcases List.mem_append.1 a with a|a
        . exact .inl (by rw [<-E];exact Xv _ a)
        . rcases d c a with z|z
          . exact .inl (by rw [<-E];exact XH _ z)
          . exact .inr z
     have A: ∀m:List Nat,(∀c∈m,c∈F\/h0.n<=c)-> ∀c∈m,¬(c=s)/\ ¬(c=u):=fun m h c a=>by
      rcases h c a with z|z
      . have:=X c z;simp [srL,keys]at this;exact⟨this.2.1,this.2.2.1⟩
      . have h2:=ll (b:=s) (by simp [keys]);have h3:=ll (b:=u) (by simp [keys]);exact⟨fun e=>by omega,fun e=>by omega⟩
     have ap:=S.apart;have n1:br≠s:=fun e=>(by subst e;simp [keys]at ap);have n2:br≠u:=fun e=>(by subst e;simp [keys]at ap);have n3:s≠u:=fun e=>(by subst e;simp [keys]at ap);clear ap;cases P:σ.K v with
     | none=>
       simp only [BZ,j,G,K,V,XQ,XC,wl,S.ld (b:=br) (o:=4) m0 rfl,S.ld (b:=br) (o:=2) m0 rfl,S.ld (b:=br) (o:=1) m0 rfl,seval];refine step_ret (qd S.ok H j (by omega) P) ?_;rintro r h2 ⟨f2,m,H2,d⟩;replace S:=S.stepF f2 (fun c a=>⟨Q c a,X c a⟩);replace d: ∀c∈m,c∈F\/h0.n<=c:=fun c a=>(d c a).imp (fun h=>h) (fun h=>Xk n0 h);clear G lL;simp only [BZ];refine ao (av rfl) (q:=0) (ps:=[]) (by kernel_rfl) ?_;simp only [BZ,cls,j,S.ld (b:=br) (o:=2) m0 rfl,S.ld (b:=br) (o:=3) m0 rfl,seval];refine cJ (aA S (i:=1) rfl Tryz.t2.2.2.1 aM (by rw [Cb];exact j) ono) ?_;clear S;rintro h3 ⟨S,I⟩;simp only [LC]at S;simp only [BZ,cls,j,seval];refine cJ (aA S (i:=2) rfl Tryz.t3.2.2.1 aM (by rw [byC_len];exact j) ono) ?_;clear S;rintro h4 ⟨S,J⟩;simp only [LC]at S;simp only [BZ,seval];exact W (by rw [P];simp) _ m S ((H2.mo I (fun c a=>(A m d c a).1)).mo J (fun c a=>(A m d c a).2)) d
     | some k=>
       have ek:=hk k P;by_cases hle:σ.L v<=lab
       . have c2:(σ.L v:Int)<=(lab:Int):=(by omega);simp only [BZ,j,G,K,lL,V,Xz,c2,S.ld (b:=br) (o:=4) m0 rfl,S.ld (b:=br) (o:=2) m0 rfl,seval];exact l (by unfold ir;rw [if_pos (.inr (.inr ⟨by rw [P];rfl,hle⟩))]) _ g
       . have c2: ¬(σ.L v:Int)<=(lab:Int):=(by omega);simp only [BZ,j,G,K,lL,V,Xz,c2,wl,S.ld (b:=br) (o:=4) m0 rfl,S.ld (b:=br) (o:=2) m0 rfl,S.ld (b:=br) (o:=1) m0 rfl,seval];refine step_ret (rL S.ok H (by omega) P (k:=(lab:Int)+pi v) (by omega)) ?_;rintro r h2 ⟨f2,H2⟩;replace S:=S.stepF f2 (fun c a=>⟨Q c a,X c a⟩);have d: ∀c∈F,c∈F\/h0.n<=c:=fun c a=>.inl a;clear G lL;simp only [BZ];refine ao (av rfl) (q:=0) (ps:=[]) (by kernel_rfl) ?_;simp only [BZ,cls,j,S.ld (b:=br) (o:=2) m0 rfl,S.ld (b:=br) (o:=3) m0 rfl,seval];refine cJ (aA S (i:=1) rfl Tryz.t2.2.2.1 aM (by rw [Cb];exact j) ono) ?_;clear S;rintro h3 ⟨S,I⟩;simp only [LC]at S;simp only [BZ,cls,j,seval];refine cJ (aA S (i:=2) rfl Tryz.t3.2.2.1 aM (by rw [byC_len];exact j) ono) ?_;clear S;rintro h4 ⟨S,J⟩;simp only [LC]at S;simp only [BZ,seval];exact W (by rw [P];simp;omega) _ F S ((H2.mo I (fun c a=>(A F d c a).1)).mo J (fun c a=>(A F d c a).2)) d
theorem iL.close{e f g:Nat}{a b vE:Value}(S:St M h0 h (srL br e f g N pn (ptrTo d) a b vE σ) (srG vE σ))(H:cF h F (ptrTo d) N σ.K)(i: ∀c∈F,c∉keys (srL br e f g N pn (ptrTo d) a b vE σ) (srG vE σ)):iL h (keys (srL br e f g N pn (ptrTo d) a b vE σ) (srG vE σ)++F) br pn a b N σ:=
 ⟨e,f,g,d,F,vE,rfl,fun q j=>(S.own q j).2,(S.gown _ m0).1,S.apart,H,i⟩
theorem iL.open(i:OZ h){a b:Value}(r:iL h B br pn a b N σ): ∃e f g d F vE,B=keys (srL br e f g N pn (ptrTo d) a b vE σ) (srG vE σ)++F/\St (· ∈B) h h (srL br e f g N pn (ptrTo d) a b vE σ) (srG vE σ)/\cF h F (ptrTo d) N σ.K/\ ∀c∈F,c∉keys (srL br e f g N pn (ptrTo d) a b vE σ) (srG vE σ):=by obtain⟨e,f,g,d,F,vE,rfl,j,k,l,m,n⟩:=r;exact⟨e,f,g,d,F,vE,rfl,St.ofHas i j (fun p o=>by cases o with|head=>exact k|tail _ h=>cases h) l (fun c q=>Xv _ q),m,n⟩
theorem Dc(pi:Nat->Int)(σ:SS)(v lab:Nat)(p:List Nat):(ir pi σ v lab p).ev=σ.ev:=by unfold ir;split<;>rfl
theorem CB(A:List Arc)(al:Nat->Bool)(pi:Nat->Int)(v:Nat)(σ:SS)(a:Nat):(scan1 A al pi v σ a).ev.length<=σ.ev.length+1:=by
 unfold scan1
 split
 . rw [Dc];simp [evS]
 . omega
theorem sscan_ok(bd:OZ hq)(gq:Gr hq h0){d:Gra}(u:Good d){A:Nat}(hn:aP hq nb (ptrTo A) d){G I:FuncId}(R:iL h0 B br (ptrTo A) (.func (.func G) #[] #[ptrTo t]) (.func (.func I) #[] #[ptrTo t]) d.nodes σ)(hB: ∀c∈B,hq.n<=c)(ax:AlF zM hq G t d.arcs.length al)(ay:PiF zM hq I t d.nodes pi)(hp: ∀v,v<d.nodes-> -(FAR:Int)<=pi v)(hv:v<d.nodes)(sv:Sv d.arcs d.nodes s al pi σ)(rm:Room σ v)(he:σ.ev.length<=10000):Ret zM 202 [ptrTo br,.int .i64 (v:Nat)] h0 fun _ h'=>Mo (· ∈B) h0 h'/\ ∃x,iL h' x br (ptrTo A) (.func (.func G) #[] #[ptrTo t]) (.func (.func I) #[] #[ptrTo t]) d.nodes (pX d.arcs al pi v σ)/\ ∀c∈x,c∈B\/h0.n<=c:=by
 have ok:=gq.ok;have n1:=u.n1;have n2:=u.n2;have wm:=kK;have hA: ∀a∈d.arcs,a.t<d.nodes/\a.w<=cg:=fun a C=>⟨(u.arcs a C).2.1,(u.arcs a C).2.2⟩;have l0:h0.load br 0 1=some [ptrTo A]:=by obtain⟨P,T,U,V,F,vE,rfl,z,_⟩:=R;exact Row.load1 (show Row h0 br _ 1 from z _ m0) (o:=0) rfl
 have S:=Si ok;refine erA (n:=62) (rs:=[]) Tryz.e202 ?_;simp only [BZ,l0,seval];refine step_ret (vU S.ok (hn.gr gq) (by have:=u.many;omega) hv) ?_;rintro vl z ⟨g,sl,e⟩;have lB:=R.lt ok;have R1:=R.gr g;have aL:=g.ok;have ol:=jQ d.arcs Arc.s d.arcs.length v;have a7:=u.many;have be:=g.n;simp only [BZ,sl.lenq,seval];refine aX (fun(i:Nat) Q h=>i<=(outs d.arcs Arc.s d.arcs.length v).length/\ ∃x,Mo (· ∈B) z h/\iL h x br (ptrTo A) (.func (.func G) #[] #[ptrTo t]) (.func (.func I) #[] #[ptrTo t]) d.nodes (((outs d.arcs Arc.s d.arcs.length v).take i).foldl (scan1 d.arcs al pi v) σ)/\(∀c∈x,c∈B\/z.n<=c)/\
  Q 0=ptrTo br/\Q 1=.int .i64 (v:Nat)/\Q 13=vl/\Q 14=.int .i64 ((outs d.arcs Arc.s d.arcs.length v).length:Nat)/\Q 15=.int .i64 i) (fun i=>(outs d.arcs Arc.s d.arcs.length v).length-i) ?_ 0 _ _ ?_
 . clear S l0;intro i ih Q hS ⟨hi,x,f,R',hB',r0,r1,r13,r14,r15⟩;by_cases hlt:i<(outs d.arcs Arc.s d.arcs.length v).length
   . have a0: ∀c∈x,hq.n<=c:=fun c e=>(hB' c e).elim (hB c) (fun h=>by have:=gq.n;omega);have gh:Gr hq hS:=(gq.trans g).mo' f hB;have a1:=sl.mo f (fun b hb J=>by have:=e b hb;have:=lB b J;omega);obtain⟨c,o,W,X⟩:=a1.ix (kd:=.i64) dr hlt;have J:=jU.1 (Xw hlt);have w:am .i64 ((i:Int)+1)=((i+1:Nat):Int):=(by rw [wrap64]<;>omega);have a2: ∀a∈(outs d.arcs Arc.s d.arcs.length v).take i,a<d.arcs.length/\(d.arcs.getD a default).s=v:=fun a C=>jU.1 (Yy C);obtain⟨N,ki⟩:=Sv.scanL hA _ sv rm a2;have Y:=rm.keeps ki;have a3:(((outs d.arcs Arc.s d.arcs.length v).take i).foldl (scan1 d.arcs al pi v) σ).ev.length<=10000+i:=by
      have: ∀(l:List Nat) (σ:SS),(l.foldl (scan1 d.arcs al pi v) σ).ev.length<=σ.ev.length+l.length:=by
       intro l
       induction l with
       |nil=>intro σ;simp|cons a l ih=>intro σ;have z:=ih (scan1 d.arcs al pi v σ a);have h2:=CB d.arcs al pi v σ a;simp only [List.foldl_cons,Ym];omega
      have z:=this ((outs d.arcs Arc.s d.arcs.length v).take i) σ;rw [XM]at z;omega
     have tk:(outs d.arcs Arc.s d.arcs.length v).take (i+1)=(outs d.arcs Arc.s d.arcs.length v).take i++[(outs d.arcs Arc.s d.arcs.length v)[i]]:=(by rw [List.take_add_one,Xf hlt];rfl);have D:((outs d.arcs Arc.s d.arcs.length v).take (i+1)).foldl (scan1 d.arcs al pi v) σ=scan1 d.arcs al pi v (((outs d.arcs Arc.s d.arcs.length v).take i).foldl (scan1 d.arcs al pi v) σ) (outs d.arcs Arc.s d.arcs.length v)[i]:=(by rw [tk,List.foldl_append];rfl);generalize(((outs d.arcs Arc.s d.arcs.length v).take i).foldl (scan1 d.arcs al pi v) σ)=r at R' N ki Y a3 D;generalize(outs d.arcs Arc.s d.arcs.length v)[i]=a at J X D;obtain⟨C,bf⟩:=J;obtain⟨P,T,U,V,F,vE,O,S,H,hF⟩:=R'.open f.ok;have bh:=R'.lt f.ok;have E: ∀c∈keys (srL br P T U d.nodes (ptrTo A) (ptrTo V) (.func (.func G) #[] #[ptrTo t]) (.func (.func I) #[] #[ptrTo t]) vE r) (srG vE r),c∈x:=fun c e=>(by rw [O];exact Xv _ e);have a4: ∀c∈F,c∈x:=fun c e=>(by rw [O];exact XH _ e);have lF:=H.lt f.ok;replace S:=S.base;generalize bi:keys (srL br P T U d.nodes (ptrTo A) (ptrTo V) (.func (.func G) #[] #[ptrTo t]) (.func (.func I) #[] #[ptrTo t]) vE r) (srG vE r)=KK at S E hF O;unfold srL srG at S;simp only [BZ,r0,r13,r14,r15,aE,hlt,W,X,bM,S.ld (b:=br) (o:=5) m0 rfl,seval];refine ae (ax _ gh a C) ?_;intro h' g';replace S:=S.call g';have bm:=g'.n;cases K:al a with
     | false=>
       simp only [BZ,r15,w,seval];refine ih (i+1) _ _ (by omega) ⟨by omega,x,f.trans (M':=NoM) g'.fr (fun _ h=>h.elim),?_,hB',by simp [aB,r0,ah,r1,r13,r14]⟩;rw [D];unfold scan1;rw [K,if_neg Bool.false_ne_true];exact R'.gr g'
     | true=>
       have bn:Fl vE:=(S.gown _ m0).1.fl;simp only [BZ,r0,S.ld (b:=br) (o:=7) m0 rfl,seval];refine ab (bZ (by exact Tryz.t44.1) (by exact Tryz.e143E) (by decide) (by rfl)) S ?_;clear S;intro h bs S a8;simp only [LC,bJ,cd,ac,Xm,Xi,Xj,Xp,seval]at S;simp only [BZ,seval];have Z:aR h 4 (.slice (some ⟨bs,0,none⟩) 1 1)=some (1,iM ⟨1,a,0⟩):=(by simp only [aR];rw [S.lds (b:=bs) (o:=0) (n:=1*4) m0 (lbt rfl)];rfl);replace S:=S.drop1;refine dT (S.grow (j:=0) (m:=1) (new:=iM ⟨1,a,0⟩) rfl Tryz.t44.1 Tryz.e143E (by decide) Tryz.t44.2.2.2.2.2 Z rfl (by decide) rfl (by rw [cB ru];show(_+4)*_<=_;omega)) ?_;clear S Z;rintro h2 y S;simp only [LC]at S;have ad:Fl y:=(S.gown _ m0).1.fl;simp only [BZ,seval];refine az (aA S (i:=0) rfl Tryz.t44.2.2.1 ad (Xc (lbt rfl)) ono) ?_;clear S;rintro h3 ⟨S,_⟩;simp only [LC]at S;have eE:(r.ev++[(⟨1,a,0⟩:Ev)]).flatMap iM=r.ev.flatMap iM++iM ⟨1,a,0⟩:=(by rw [Xx];simp);rw [<-eE]at S;simp only [BZ,r0,S.ld (b:=br) (o:=0) m0 rfl,seval];have af: ∀c∈KK,hq.n<=c:=fun c e=>a0 c (E c e);refine step_ret (jb S.ok (hn.gr (gh.mo' S.fr af)) C) ?_;rintro rv h4 ⟨g4,rfl⟩;replace S:=S.call g4;clear g4;have ga:d.arcs[a]=d.arcs.getD a default:=(by simp [zO,C]);have ai:=hA (d.arcs.getD a default) (by rw [<-ga];exact Xw C);have lv:=Y.2.1;have bo:r.O.length*cg<=12*cg:=Yw _ (Xk N.len n2);rw [ga];simp only [BZ,cQ,seval];refine ab au S ?_;clear S;intro h b6 S bc;simp only [BZ,seval];refine az (stA S (i:=0) Tryz.t135.2.1) ?_;clear S;rintro h ⟨S,mo⟩;clear mo;simp only [LC,ac,lay,Xd,Xe,seval]at S;simp only [BZ,seval];have lL:=(S.row (b:=P) m2).load1 (wI (L:=r.L) hv);have wn:am .i64 ((r.L v:Int)+((d.arcs.getD a default).w:Int))=((r.L v+(d.arcs.getD a default).w:Nat):Int):=(by rw [wrap64]<;>omega);refine ao (av rfl) (q:=0) (ps:=[]) (by kernel_rfl) ?_;simp only [BZ,cls,r0,r1,wn,hv,lL,S.ld (b:=br) (o:=2) m1 rfl,S.ld (b:=b6) (o:=1) m0 rfl,S.ld (b:=b6) (o:=2) m0 rfl,seval];have kn:=fun c e=>(S.key_own (b:=c) e).symm;have kf:=S.fr;have gx:=gh.mo' S.fr af;have a5: ∀c∈F,c∉keys (srL br P T U d.nodes (ptrTo A) (ptrTo V) (.func (.func G) #[] #[ptrTo t]) (.func (.func I) #[] #[ptrTo t]) y (evS r ⟨1,a,0⟩)) (srG y (evS r ⟨1,a,0⟩)):=fun c e J=>by
        rcases kn c (Yz _ J)with z|z
        . exact hF c e z
        . have:=lF c e;omega
       have R2:=iL.close (σ:=evS r ⟨1,a,0⟩) (vE:=y) S.drop1 (H.mo kf (fun c e J=>hF c e J)) a5;have ak: ∀c∈keys (srL br P T U d.nodes (ptrTo A) (ptrTo V) (.func (.func G) #[] #[ptrTo t]) (.func (.func I) #[] #[ptrTo t]) y (evS r ⟨1,a,0⟩)) (srG y (evS r ⟨1,a,0⟩))++F,c∈x\/hS.n<=c:=fun c e=>by
        rcases List.mem_append.1 e with e|e
        . exact(kn c (Yz _ e)).imp (E c) (fun h=>h)
        . exact .inl (a4 c e)
       refine bO (Bd (p:=a::r.P v) (lab:=r.L v+(d.arcs.getD a default).w) gx R2 ay n2 ai.1 (by omega) (hp _ ai.1) (fun k hk=>(N.op _ k hk).2.2.2)) ?_;rintro rv h5 ⟨f5,B3,R3,a6⟩;simp only [BZ,r15,w,seval];have nh:=f.n;have nx:=kf.n;have gB: ∀c,c∈x\/hS.n<=c->c∈B\/z.n<=c:=fun c e=>e.elim (hB' c) (fun h=>.inr (by omega));refine ih (i+1) _ _ (by omega) ⟨by omega,B3,(f.trans kf (fun c e=>gB c (.inl (E c e)))).trans f5 (fun c e=>gB c (ak c e)),?_,fun c e=>gB c ((a6 c e).elim (ak c) (fun h=>.inr (by omega))),by simp [aB,r0,ah,r1,r13,r14]⟩;rw [D];unfold scan1;rw [K,if_pos rfl];exact R3
   . have ei:i=(outs d.arcs Arc.s d.arcs.length v).length:=(by omega);simp only [BZ,r14,r15,aE,hlt,seval];refine⟨(g.fr (M:=(· ∈B))).trans f (fun c e=>.inl e),x,?_,fun c e=>(hB' c e).imp (fun h=>h) (fun h=>by omega)⟩;rw [ei,List.take_length]at R';exact R'
 . exact⟨XP _,B,Mo.refl aL,R1,fun c e=>.inl e,by simp [aB,cK,ah,dE]⟩
def ur(E:Env)(g:FuncId)(post:List Value)(h0:Hp)(D W:Nat->Prop)(xs:List (List Value)):Prop:=
 ∀a J Z,(∀v h,¬Z (.pan v) h)->Yld E a J Z xs->(∀i h F c,J i h F->Mo W h c->J i c F)-> ∀h F,ItS h0 D h F->(∀b,W b->h.get b=h0.get b)->(∀b∈F,¬W b)->J 0 h F->eB E g ([]++[.func (.yield a) #[] #[]]++post) none h (YQ J Z xs.length)
theorem iter_w{post:List Value}{xs:List (List Value)}(H:lz E g [] post h0 D xs):ur E g post h0 D NoM xs:=fun a J Z b Y _ h F s _ _ c=>H a J Z b Y h F s c
theorem pN(l:List Nat):(l.flatMap bM).length=l.length:=by rw [cB dr];omega
theorem mE{p:GL}(g:ij h p)(a:ar p.1 c):eH p=some c:=by
 rcases g with⟨e,_⟩|⟨b,n,e,_⟩
 . rw [e]at a;exact a.elim
 . obtain⟨v,k,d⟩:=p;simp only []at e a;subst e;exact congrArg some a
theorem BK(Y:OZ h0)(Z:ur zM g post.toList h0 D W (xs.map fun(x:Nat)=>[.int .i64 x]))(I: ∀b,W b->b<h0.n)(hn:xs.length<100000):Ret zM 155 [.slice none 0 0,.func (.func g) #[] post] h0 fun r h'=>Mo W h0 h'/\ij h' (r,1,xs.flatMap bM)/\ ∀c,ar r c->h0.n<=c:=by
 have S:=Si Y;refine erA (n:=13) (rs:=[.tmp 4]) Tryz.e155 ?_;simp only [BZ,seval];refine ab (bz (by exact bH)) S ?_;clear S;intro h l S t;simp only [BZ,if_false,seval];replace S:=S.nilG (k:=1);have J:=S.gr;replace S:=S.monoM (M:=W);have C:=S.fr;refine gP S (g:=g) (a:=#[]) (b:=post) (by simp [bw,aB,cK,dE]) rfl rfl ?_;intro E u s p ad af K;obtain⟨X,N,p⟩: ∃X:fF,X=_/\St W h0 E [(s,.loop X),(u,.dfr),(l,.row [.slice none 0 0] 1)] [(.slice none 0 0,1,[])]:=⟨_,rfl,p⟩;have O: ∀c,h0.n<=c-> ¬W c:=fun c h G=>by have:=I c G;omega
 have hJ:Yld zM s (fun k h' F=> ∃(e:Value),St W h0 h' [(s,.loop X),(u,.dfr),(l,.row [e] 1)] [(e,1,(xs.take k).flatMap bM)]/\k<=xs.length/\(∀c∈F,h0.n<=c)/\F=keys [(s,.loop X),(u,.dfr),(l,.row [e] 1)] [(e,1,(xs.take k).flatMap bM)]) (fun _ _=>False) (xs.map fun(x:Nat)=>[.int .i64 x]):=by
  refine⟨?_,?_,fun _ _ h=>h.elim,?_⟩
  . rintro i h F ⟨e,S,_,_,rfl⟩;exact⟨S.ok,fun b f=>S.key_lt f⟩
  . rintro i h F h' ⟨e,S,a,b,rfl⟩ B;exact⟨e,S.call B,a,b,rfl⟩
  . rintro i x hR F v ⟨e,S,a,b,rfl⟩;have w:i<xs.length:=(by have:=(List.getElem?_eq_some_iff.1 v).1;simpa using this);rw [Xn,Xf w]at v;cases v;have tk:(xs.take (i+1)).flatMap bM=(xs.take i).flatMap bM++[.int .i64 (xs[i]:Nat)]:=(by rw [List.take_add_one,Xf w,Xx];rfl);have tl:(xs.take i).length<=i:=(by rw [XM];omega);subst N;refine gK (S.get m0) (by rw [Tryz.e155];rfl) rfl ?_;have P:=S;replace S:=S.base;simp only [BZ,seval];refine fG S (i:=0) rfl rfl rfl rfl rfl ?_;clear S;intro h S;simp only [LC]at S;simp only [BZ,S.ld (b:=l) (o:=0) m2 rfl,seval];refine ab (bZ (by exact Tryz.t41.1) (by exact Tryz.e3E) (by decide) (by rfl)) S ?_;clear S;intro h Q S R;simp only [LC,bJ,cd,ac,Xm,Xi,Xj,Xp,seval]at S;simp only [BZ,seval];have z:aR h 1 (.slice (some ⟨Q,0,none⟩) 1 1)=some (1,[.int .i64 (xs[i]:Nat)]):=(by simp only [aR];rw [S.lds (b:=Q) (o:=0) (n:=1*1) m0 (lbt rfl)];rfl);replace S:=S.drop1;refine dT (S.grow (j:=0) (m:=1) (new:=[.int .i64 (xs[i]:Nat)]) rfl Tryz.t41.1 Tryz.e3E (by decide) Tryz.t41.2.2.2.2.2 z rfl (by decide) rfl (by rw [pN];simp;omega)) ?_;clear S z;rintro h A S;simp only [LC]at S;have fv:Fl A:=(S.gown _ m0).1.fl;simp only [BZ,seval];refine az (aA S (i:=2) rfl Tryz.t41.2.2.1 fv (Xc (lbt rfl)) ono) ?_;clear S;rintro h ⟨S,_⟩;simp only [LC]at S;simp only [BZ];refine dC S (i:=0) rfl ?_;clear S;intro h S;simp only [LC]at S;rw [<-tk]at S;have H:=P.rebase S;refine .inl ⟨rfl,_,⟨A,H,by omega,fun c d=>?_,rfl⟩,S.fr,fun c d=>(S.key_own d).symm⟩;rcases S.key_own d with U|U
    . have:=P.fr.n;omega
    . exact b c U
 have q: ∀c∈keys [(s,Ob.loop X),(u,.dfr),(l,.row [.slice none 0 0] 1)] [(.slice none 0 0,1,[])],h0.n<=c:=fun c d=>by have n2:=t;have:=C.n;simp [keys,eH]at d;omega
 refine dh (Z s _ _ (fun _ _ h=>h) hJ ?_ E _ ?_ ?_ (fun c d=>O c (q c d)) ⟨_,p,XP _,q,rfl⟩) fun o rc h' y=>iJ y ?_
 . rintro i h F h' ⟨e,S,a,b,rfl⟩ B;exact⟨e,S.step B (fun c d=>.inl d) (fun c d G=>O c (b c d) G),a,b,rfl⟩
 . have B:Mo W h0 E:=p.fr;exact⟨p.ok,p.fr.n,fun b f _=>(J.trans K).get b f,fun b f h=>by have:=q b f;omega,fun b f=>p.key_lt f⟩
 . exact fun b f=>(J.trans K).get b (I b f)
 . rintro F ⟨e,T,a,b,rfl⟩;rw [Yt,List.take_length]at T b;subst N;refine⟨_,T.get m0,Ys,?_⟩;replace T:=T.dead;have S:=T;show Run _ _ _ _ _ _ _ _;simp only [BZ,S.ld (b:=l) (o:=0) m1 rfl,seval];refine df (gm [u] _ (L:=[(l,_)]) T.base fun h3 V=>⟨rfl,_,rfl,?_⟩);refine⟨(T.fr.trans V.fr (fun c d=>(T.key_own d).symm):Mo W h0 h3),(V.gown _ m0).1,fun x v=>?_⟩;refine b x ?_;have:eH (e,1,xs.flatMap bM)=some x:=mE (T.gown _ m0).1 v;exact fJ m0 this
theorem sT(a:OZ h0)(d:ur zM g post.toList h0 D W (xs.map fun(x:Nat)=>[.int .i64 x]))(e: ∀b,W b->b<h0.n)(i:xs.length<100000):Ret zM 64 [.func (.func g) #[] post] h0 fun r h'=>Mo W h0 h'/\ij h' (r,1,xs.flatMap bM)/\ ∀c,ar r c->h0.n<=c:=by
 have S:=Si a;refine erA (n:=5) (rs:=[.tmp 2]) Tryz.e64 ?_;simp only [BZ,seval];refine step_ret (BK S.ok d e i) ?_;rintro r h ⟨f,q⟩;simp only [BZ,aa,seval];exact⟨f,q⟩
theorem sback_ok(c:OZ h0):Ret zM 201 [ptrTo br,.int .i64 v] h0 fun r h'=>Gr h0 h'/\ ∃b1 b2,r=.func (.func 252) #[] #[ptrTo b1,ptrTo b2]/\h0.n<=b1/\h0.n<=b2/\b1≠b2/\h'.load b1 0 1=some [ptrTo br]/\Row h' b2 [.int .i64 v] 1:=by have S:=Si c;refine erA (n:=6) (rs:=[.tmp 4]) Tryz.e201 ?_;simp only [BZ,seval];refine ab (bz (by exact bA)) S ?_;clear S;intro h b1 S a;simp only [BZ,if_false,seval];refine ab (bz (by exact aM)) S ?_;clear S;intro h b2 S b;simp only [BZ,aa,seval];have d:=S.apart;exact⟨S.gr,b1,b2,rfl,a,b,fun e=>(by subst e;simp [keys]at d),S.ld m1 rfl,S.row m0⟩
theorem back_it(T:OZ hq)(U:Gr hq h0){g:Gra}(ay:Good g){x:Nat}(hn:aP hq nb (ptrTo x) g){m:Value}(R:iL h0 B br (ptrTo x) m p g.nodes σ)(sv:Sv g.arcs g.nodes s al pi σ)(hu:k∈σ.O)(e1:h0.load b1 0 1=some [ptrTo br])(e2:Row h0 b2 [.int .i64 k] 1)(d1:b2∉B)(d2:b1≠b2)(d3:hq.n<=b2):ur zM 252 [ptrTo b1,ptrTo b2] h0 (fun c=>c=b1\/c∈B\/c<hq.n) (· =b2) ((σ.P k).map fun(a:Nat)=>[.int .i64 a]):=by
 intro lb J Z hz Y hW h F r t z A;have f:=U.ok;obtain⟨V,C,W,X,F',y,rfl,hL,_⟩:=R;have rr:Row h0 br _ 1:=hL _ m0;have rb:Row h0 C (byC g.nodes σ.P) 1:=hL _ m2;have D:br∈keys (srL br V C W g.nodes (ptrTo x) (ptrTo X) m p y σ) (srG y σ)++F':=Xv _ (by simp [srL,keys]);have M:C∈keys (srL br V C W g.nodes (ptrTo x) (ptrTo X) m p y σ) (srG y σ)++F':=Xv _ (by simp [srL,keys]);generalize keys (srL br V C W g.nodes (ptrTo x) (ptrTo X) m p y σ) (srG y σ)++F'=B at d1 D M r;have l0:=rr.load1 (o:=0) rfl;have l3:=rr.load1 (o:=3) rfl;have d:Row h b2 [.int .i64 k] 1:=Row.of_get (t b2 rfl) e2;have q2:=d.load1 (o:=0) rfl;have N:=sv.lt k hu;have E:=r.load f e1 (.inl rfl);have O:=r.load f l3 (.inr (.inl D));have Q:=r.load f (rb.load1 (byC_at (P:=σ.P) N)) (.inr (.inl M));refine enA (n:=39) (rs:=[]) Tryz.e252 ?_;simp only [BZ];refine ao (av rfl) (q:=0) (ps:=[]) (by kernel_rfl) ?_;simp only [BZ,cls,E,q2,O,Q,N,seval];refine aX (fun(j:Nat) G h=>j<=(σ.P k).length/\ ∃u F,u∈σ.O/\σ.P u=(σ.P k).drop j/\ItS h0 (fun c=>c=b1\/c∈B\/c<hq.n) h F/\b2∉F/\J j h F/\Row h b2 [.int .i64 (u:Nat)] 1/\G 0=.func (.yield lb) #[] #[]/\G 1=ptrTo b1/\G 2=ptrTo b2/\G 4=.int .i64 (byI (σ.P u))) (fun j=>(σ.P k).length-j) ?_ 0 _ _ ?_
 . clear E q2 O Q N d A z t r F h;intro j ih G hS ⟨hj',u,F,hu',hP,r,z,A,d,r0,r1,r2,r4⟩;have N:=sv.lt u hu';rcases sv.path u (.inl hu')with⟨_,e,_⟩|⟨a,ha,aL,ht,hs,e,_⟩
   . have ej:j=(σ.P k).length:=(by rw [e]at hP;have:=congrArg List.length hP;rw [List.length_drop]at this;simp at this;omega);rw [e]at r4;simp only [byI]at r4;simp only [BZ,r4,seval];exact bU (cy ⟨rfl,_,rfl,rfl,.inl ⟨_,F,rfl,by rw [Yt,<-ej];exact A⟩⟩)
   . have hlt:j<(σ.P k).length:=(by rw [e]at hP;have:=congrArg List.length hP;rw [List.length_drop]at this;simp at this;omega);have H:(σ.P k)[j]=a/\(σ.P k).drop (j+1)=σ.P (g.arcs.getD a default).s:=(by rw [e,Yj hlt]at hP;injection hP with h1 h2;exact⟨h1.symm,h2.symm⟩);have hx:((σ.P k).map fun(a:Nat)=>[Value.int .i64 a])[j]? =some [.int .i64 (a:Nat)]:=(by rw [Xn,Xf hlt,H.1];rfl);rw [e]at r4;simp only [byI]at r4;have c0:(0:Int)<=(a:Int):=(by omega);have ak:=d.lt r.ok;simp only [BZ,r0,r4,c0,seval];refine c7 Y r A (i:=j) hx ?_ ?_ ?_
     . intro I F2 ad l f2 af;have w:Row I b2 [.int .i64 (u:Nat)] 1:=f2.has (o:=.row _ 1) d z;have ai:b2∉F2:=fun hm=>(af b2 hm).elim z (fun h=>by omega);have S:=St.init1 l.ok (o:=.row _ 1) w;have E:=l.load f e1 (.inl rfl);have q0:=l.load f l0 (.inr (.inl D));have O:=l.load f l3 (.inr (.inl D));have sN:=sv.lt _ hs;have Q:=l.load f (rb.load1 (byC_at (P:=σ.P) sN)) (.inr (.inl M));have nt:aP I nb (ptrTo x) g:=hn.keep T (l.keep (Gr.keep U) U.n (fun c hc=>.inr (.inr hc)));simp only [BZ,r1,r4,E,q0,seval];refine step_ret (jb S.ok nt ha) ?_;rintro rv h4 ⟨g4,rfl⟩;replace S:=S.call g4;clear g4;have ga:g.arcs[a]=g.arcs.getD a default:=(by simp [zO,ha]);rw [ga];have K: ∀{c},c=b1\/c∈B-> ¬c=b2:=fun hc e=>(by subst e;exact hc.elim (fun h=>d2 h.symm) d1);simp only [BZ,cQ,seval];refine ab au S ?_;clear S;intro h b5 S ax;simp only [BZ,seval];refine az (stA S (i:=0) Tryz.t135.2.1) ?_;clear S;rintro h ⟨S,mo⟩;clear mo;simp only [LC,ac,lay,Xd,Xe,seval]at S;simp only [BZ,r2,S.ld (b:=b5) (o:=0) m0 rfl,seval];refine az (aA S (i:=1) rfl ?_ ?_ ?_ ono) ?_
       . exact(by simp only [FA0])
       . exact(by exact aM)
       . exact Xc (lbt rfl)
       clear S;rintro h ⟨S,mo⟩;clear mo;simp only [LC,ac,lay,Xd,Xe,seval]at S;have k1:=S.old E (K (.inl rfl));have k3:=S.old O (K (.inr D));have k4:=S.old Q (K (.inr M));simp only [BZ];refine ao (av rfl) (q:=0) (ps:=[]) (by kernel_rfl) ?_;simp only [BZ,cls,r1,r2,k1,k3,k4,sN,S.ld (b:=b2) (o:=0) m1 rfl,seval];have L:=S.fr;refine ih (j+1) _ _ (by omega) ⟨by omega,(g.arcs.getD a default).s,F2,hs,H.2.symm,?_,ai,hW _ _ _ _ ad L,S.row (by simp),by simp [aB,r0,r1,ah,r2]⟩;exact⟨L.ok,Xk l.n L.n,fun b t H=>(L.get b (XT t l.n) (by rcases H with h|h|h;exact K (.inl h);exact K (.inr h);exact fun e=>by omega)).trans (l.data b t H),l.apart,fun b t=>XT (l.lt b t) L.n⟩
     . intro I a' _;simp only [BZ,seval];exact bU (cy ⟨rfl,_,rfl,rfl,.inr (.inl ⟨_,rfl,a'⟩)⟩)
     . intro v I a';exact absurd a' (hz v I)
 . exact⟨XP _,k,F,hu,by rw [XE],r,fun hm=>z b2 hm rfl,A,d,by simp [aB,cL,ah]⟩
def rvC(n k:Nat)(f:Nat->Value):List Value:=(Xa n).map fun p=>if p<k\/n<=p+k then f (n-1-p)else f p
theorem po{f:Nat->Value}:(rvC n k f).length=n:=by simp [rvC]
theorem s8{f:Nat->Value}(h:i<n):(rvC n k f)[i]? =some (if i<k\/n<=i+k then f (n-1-i)else f i):=lH (F:=fun p=>if p<k\/n<=p+k then f (n-1-p)else f p) h
theorem rvC_step{f:Nat->Value}(h:2*k+1<n):((rvC n k f).set k (f (n-1-k))).set (n-1-k) (f k)=rvC n (k+1) f:=by
 refine Xt fun i=>?_;rw [XU,XU,Xs,po];by_cases a:i<n
 . rw [s8 a,s8 a];by_cases b:n-1-k=i
   . subst b;rw [if_pos rfl,if_pos a,if_pos (.inr (by omega)),show n-1-(n-1-k)=k by omega]
   . rw [if_neg b];by_cases d:k=i
     . subst d;rw [if_pos rfl,if_pos a,if_pos (.inl (by omega))]
     . rw [if_neg d];congr 1;by_cases c:i<k\/n<=i+k
       . rw [if_pos c,if_pos (by omega)]
       . rw [if_neg c,if_neg (by omega)]
 . rw [if_neg (by omega),if_neg (by omega)];rw [Xy (by rw [po];omega),Xy (by rw [po];omega)]
theorem rvC_zero:xs.flatMap bM=rvC xs.length 0 fun p=>.int .i64 (xs.getD p 0:Nat):=by
 have e:xs.flatMap bM=xs.map fun(x:Nat)=>Value.int .i64 x:=by rw [Xq,XR,Xq];rfl
 rw [e];refine Xt fun i=>?_;by_cases a:i<xs.length
 . rw [s8 a,if_neg (by omega)];simp [a]
 . rw [Xy (by simpa using a),Xy (by rw [po];omega)]
theorem rvC_done(h:xs.length<=2*k+1)(d:2*k<=xs.length):rvC xs.length k (fun p=>.int .i64 (xs.getD p 0:Nat))=xs.reverse.flatMap bM:=by
 have e:xs.reverse.flatMap bM=xs.reverse.map fun(x:Nat)=>Value.int .i64 x:=by rw [Xq,XR,Xq];rfl
 rw [e];refine Xt fun i=>?_;by_cases b:i<xs.length
 . rw [s8 b,Xn,List.getElem?_reverse b];have a:xs.length-1-i<xs.length:=(by omega);rw [Xf a];have g: ∀{j:Nat} (a:j<xs.length),xs.getD j 0=xs[j]:=fun a=>(by simp [zO,a]);by_cases c:i<k\/xs.length<=i+k
   . rw [if_pos c,g a];rfl
   . rw [if_neg c];have:i=xs.length-1-i:=(by omega);rw [g b];simp only [XN];congr 3;simp only [<-this]
 . rw [Xy (by rw [po];omega),Xy (by simpa using b)]
theorem xJ(u:OZ h0){v:Value}(y:ij h0 (v,1,xs.flatMap bM))(L:xs.length<1000000):Ret zM 137 [v] h0 fun _ h'=>Mo (ar v) h0 h'/\ij h' (v,1,xs.reverse.flatMap bM):=by
 rcases y with⟨g,j⟩|⟨b,n,g,j,t⟩
 . simp only []at g j;subst g;have:xs=[]:=by
    cases xs with
    |nil=>rfl|cons a l=>simp [bM]at j
   subst this;have S:=Si u;refine erA (n:=28) (rs:=[]) Tryz.e137 ?_;simp only [BZ,Xb,seval];rw [cE];have z:am .i64 (-1)= -1:=rfl;have A: ¬((0:Int)< -1):=(by omega);simp only [BZ,z,A,seval];exact⟨S.gr.fr,.inl ⟨rfl,rfl⟩⟩
 . simp only []at g j t;subst g;have B:n=xs.length:=(by rw [pN]at j;omega);subst B;rw [rvC_zero]at t;have S:=St.init1 u (o:=.row _ 1) t;have C:am .i64 ((xs.length:Int)-1)=(xs.length:Int)-1:=(by rw [wrap64]<;>omega);refine erA (n:=28) (rs:=[]) Tryz.e137 ?_;simp only [BZ,C,seval];refine aX (fun(k:Nat) r h=>2*k<=xs.length/\St (· =b) h0 h [(b,.row (rvC xs.length k fun p=>.int .i64 (xs.getD p 0:Nat)) 1)] []/\r 0=.slice (some ⟨b,0,some 1⟩) xs.length xs.length/\r 2=.int .i64 (k:Nat)/\r 3=.int .i64 ((xs.length:Int)-1-k)) (fun k=>xs.length-k) ?_ 0 _ _ ?_
   . clear S;intro k D r M ⟨hk,S,r0,r2,r3⟩;by_cases hlt:2*k+1<xs.length
     . have s:(k:Int)<(xs.length:Int)-1-k:=(by omega);have e:k<xs.length:=(by omega);have d:xs.length-1-k<xs.length:=(by omega);have E:(xs.length:Int)-1-k=((xs.length-1-k:Nat):Int):=(by omega);have F:am .i64 ((k:Int)+1)=((k+1:Nat):Int):=(by rw [wrap64]<;>omega);have G:am .i64 (((xs.length-1-k:Nat):Int)-1)=(xs.length:Int)-1-(k+1:Nat):=(by rw [wrap64]<;>omega);have w:=(S.row (b:=b) m0).load1 (s8 e);have x:=(S.row (b:=b) m0).load1 (s8 d);rw [if_neg (by omega)]at w x;rw [E]at r3 s;simp only [BZ,r2,r3,s,seval];refine ao (av rfl) (q:=0) (ps:=[]) (by kernel_rfl) ?_;simp only [BZ,cls,r0,r2,r3,e,d,w,x,seval];refine cJ (aA S (i:=0) rfl Tryz.t3.2.2.1 aM (by rw [po];exact e) ono) ?_;clear S;rintro N ⟨S,H⟩;simp only [LC]at S;simp only [BZ,cls,d,seval];refine cJ (aA S (i:=0) rfl Tryz.t3.2.2.1 aM (by rw [Xs,po];exact d) ono) ?_;clear S;rintro O ⟨S,I⟩;simp only [LC]at S;have J:=rvC_step (f:=fun p=>.int .i64 (xs.getD p 0:Nat)) hlt;rw [J]at S;simp only [BZ,r2,r3,F,G,seval];exact D (k+1) _ _ (by omega) ⟨by omega,S,by simp [aB,r0]⟩
     . have s: ¬(k:Int)<(xs.length:Int)-1-k:=(by omega);simp only [BZ,r2,r3,s,seval];have m:=S.row m0;rw [rvC_done (by omega) hk]at m;exact⟨S.fr.mono (fun c K=>Eq.symm K),.inr ⟨b,xs.length,rfl,by show xs.length*1=(xs.reverse.flatMap bM).length;rw [pN,List.length_reverse];omega,m⟩⟩
   . exact⟨by omega,S,by simp [aB,cK]⟩
def fe(l:List Nat):List Value:=l.map fun(x:Nat)=>.int .i64 x
theorem tq(l:List Nat):l.flatMap bM=fe l:=by unfold fe;rw [Xq,XR,Xq];rfl
theorem mN(l:List Nat):(fe l).length=l.length:=by simp [fe]
theorem natM_at{l:List Nat}(h:i<l.length):(fe l)[i]? =some (.int .i64 (l.getD i 0:Nat)):=by unfold fe;rw [Xn,Xf h];simp [zO,h]
theorem CR(l:List Nat)(i x:Nat):(fe l).set i (.int .i64 (x:Nat))=fe (l.set i x):=by unfold fe;rw [Yn]
def swJ(l:List Nat)(j:Nat):List Nat:=(l.set j (l.getD (j-1) 0)).set (j-1) (l.getD j 0)
def bub(key:Nat->Int):Nat->List Nat->List Nat
 |0,l=>l|j+1,l=>if key (l.getD j 0)<key (l.getD (j+1) 0)then bub key j (swJ l (j+1))else l
def kP(key:Nat->Int)(k:Nat)(l:List Nat):List Nat:=(Xa k).foldl (fun l i=>bub key (i+1) l) l
theorem sS(key:Nat->Int)(k:Nat)(l:List Nat):kP key (k+1) l=bub key (k+1) (kP key k l):=by unfold kP;rw [Yd,List.foldl_append];rfl
theorem swJ_len(l:List Nat)(j:Nat):(swJ l j).length=l.length:=by simp [swJ]
theorem CO{l:List Nat}(h:j<l.length):(swJ l j).Perm l:=by have:((l.set j l[j-1]).set (j-1) l[j]).Perm l:=List.set_set_perm h (by omega);unfold swJ;rwa [show l.getD (j-1) 0=l[j-1] by simp [zO,show j-1<l.length by omega],show l.getD j 0=l[j] by simp [zO,h]]
theorem DI{key:Nat->Int}: ∀(j:Nat) {l:List Nat},j<l.length->(bub key j l).Perm l
 |0,l,_=>.refl _| j+1,l,h=>by
   unfold bub
   split
   . exact(DI j (by rw [swJ_len];omega)).trans (CO h)
   . exact .refl _
theorem sX{key:Nat->Int}{l:List Nat}: ∀(k:Nat),k<l.length\/k=0->(kP key k l).Perm l
 |0,_=>.refl _| k+1,h=>by have a:=sX (key:=key) (l:=l) k (by omega);rw [sS];exact(DI (k+1) (by rw [a.length_eq];omega)).trans a
theorem Ce{a b:Int}:nZ a b<0↔a<b:=by
 unfold nZ
 split
 . omega
 . split<;>omega
def CmpF(E:Env)(hq:Hp)(g:FuncId)(post:List Value)(N:Nat)(key:Nat->Int):Prop:= ∀h,Gr hq h-> ∀i j,i<N->j<N->aQ E g ([.int .i64 (i:Nat),.int .i64 (j:Nat)]++post) h (.int .i64 (nZ (key j) (key i)))
theorem Fc(z:Gr hq h0)(p:Row h0 b (fe xs) 1)(Q:hq.n<=b)(R:xs.length<=20)(A: ∀x∈xs,x<N)(F:CmpF zM hq g post.toList N key):Ret zM 269 [.slice (some ⟨b,0,some 1⟩) xs.length xs.length,.int .i64 0,.int .i64 (xs.length:Nat),.func (.func g) #[] post] h0 fun _ h'=>Mo (· =b) h0 h'/\Row h' b (fe (kP key (xs.length-1) xs)) 1:=by
 have G:=z.ok;have S:=St.init1 G (o:=.row _ 1) p;have T:am .i64 (0+1)=((0+1:Nat):Int):=rfl;refine erA (n:=53) (rs:=[]) Tryz.e269 ?_;simp only [BZ,seval];refine aX (fun(i:Nat) a h=>i<=xs.length-1/\St (· =b) h0 h [(b,.row (fe (kP key i xs)) 1)] []/\a 0=.slice (some ⟨b,0,some 1⟩) xs.length xs.length/\a 1=.int .i64 0/\a 2=.int .i64 (xs.length:Nat)/\a 3=.func (.func g) #[] post/\a 8=.int .i64 ((i+1:Nat):Int)) (fun i=>xs.length-i) ?_ 0 _ _ ?_
 . clear S;intro i B a h ⟨hi,S,r0,r1,r2,r3,r8⟩;by_cases hlt:i+1<xs.length
   . simp only [BZ,r2,r8,aE,hlt,seval];have r:=sX (key:=key) (l:=xs) i (.inl (by omega));refine aX (fun(j:Nat) a h=>j<=i+1/\ ∃l,l.Perm xs/\bub key j l=bub key (i+1) (kP key i xs)/\St (· =b) h0 h [(b,.row (fe l) 1)] []/\a 0=.slice (some ⟨b,0,some 1⟩) xs.length xs.length/\a 1=.int .i64 0/\a 2=.int .i64 (xs.length:Nat)/\a 3=.func (.func g) #[] post/\a 8=.int .i64 ((i+1:Nat):Int)/\a 9=.int .i64 (j:Nat)) (fun j=>j) ?_ (i+1) _ _ ?_
     . clear S r0 r1 r2 r3 r8;intro j s a h ⟨hj,l,pm,hbub,S,r0,r1,r2,r3,r8,r9⟩;have U:=pm.length_eq;have C:am .i64 (((i+1:Nat):Int)+1)=((i+1+1:Nat):Int):=(by rw [wrap64]<;>omega);by_cases H:0<j
       . obtain⟨k,rfl⟩: ∃k,j=k+1:=⟨j-1,by omega⟩;have D:(0:Int)<((k+1:Nat):Int):=(by omega);have t:am .i64 (((k+1:Nat):Int)-1)=(k:Int):=(by rw [wrap64]<;>omega);have E:k+1<xs.length:=(by omega);have u:k<xs.length:=(by omega);have d:=(S.row (b:=b) m0).load1 (natM_at (i:=k+1) (by omega));have f:=(S.row (b:=b) m0).load1 (natM_at (i:=k) (by omega));have I:l.getD (k+1) 0<N:=(by refine A _ (pm.mem_iff.1 ?_);rw [zO,Xf (by omega)];exact Xw _);have J:l.getD k 0<N:=(by refine A _ (pm.mem_iff.1 ?_);rw [zO,Xf (by omega)];exact Xw _);simp only [BZ];refine ao (av rfl) (q:=0) (ps:=[]) (by kernel_rfl) ?_;simp only [BZ,cls,r0,r1,r3,r9,D,t,E,u,d,f,seval];refine bj (F _ (((z.fr (M:=NoM)).trans S.fr (fun c e=>.inr (by omega))).gr) _ _ I J) ?_;intro h v;replace S:=S.call v;by_cases m:key (l.getD k 0)<key (l.getD (k+1) 0)
         . have w:nZ (key (l.getD k 0)) (key (l.getD (k+1) 0))<0:=Ce.2 m;replace d:=v.load d;replace f:=v.load f;simp only [BZ,cls,w,seval];refine ao (av rfl) (q:=0) (ps:=[]) (by kernel_rfl) ?_;simp only [BZ,cls,r0,r9,t,E,u,d,f,seval];refine cJ (aA S (i:=0) rfl Tryz.t3.2.2.1 aM (by rw [mN];omega) ono) ?_;clear S;rintro V ⟨S,K⟩;simp only [LC]at S;simp only [BZ,cls,u,seval];refine cJ (aA S (i:=0) rfl Tryz.t3.2.2.1 aM (by rw [Xs,mN];omega) ono) ?_;clear S;rintro W ⟨S,L⟩;simp only [LC]at S;rw [CR,CR]at S;simp only [BZ,r9,t,seval];have e:bub key (k+1) l=bub key k (swJ l (k+1)):=(by show(if _ then _ else _)=_;rw [if_pos m]);exact s k _ _ (by omega) ⟨by omega,swJ l (k+1),(CO (by omega)).trans pm,by rw [<-e];exact hbub,S,by simp [aB,r0,r1,r2,r3,r8]⟩
         . have w: ¬nZ (key (l.getD k 0)) (key (l.getD (k+1) 0))<0:=fun h=>m (Ce.1 h);have e:bub key (k+1) l=l:=(by show(if _ then _ else _)=_;rw [if_neg m]);rw [e]at hbub;simp only [BZ,cls,r8,w,C,seval];exact B (i+1) _ _ (by omega) ⟨by omega,by rw [sS,<-hbub];exact S,by simp [aB,r0,r1,r2,r3]⟩
       . have O:j=0:=(by omega);subst O;have y:l=bub key (i+1) (kP key i xs):=hbub;have D: ¬(0:Int)<((0:Nat):Int):=(by omega);simp only [BZ];refine ao (av rfl) (q:=0) (ps:=[]) (by kernel_rfl) ?_;simp only [BZ,cls,Xb,r1,r8,r9,C,seval];exact B (i+1) _ _ (by omega) ⟨by omega,by rw [sS,<-y];exact S,by simp [aB,r0,r1,r2,r3]⟩
     . exact⟨XD _,_,r,rfl,S,by simp [aB,r0,r1,r2,r3,r8]⟩
   . simp only [BZ,r2,r8,aE,hlt,seval];have P:i=xs.length-1:=(by omega);subst P;exact⟨S.fr,S.row m0⟩
 . exact⟨XP _,S,by simp [aB,cL],by simp [aB,cL],by simp [aB,cL],by simp [aB,cL],by simp [aB];rfl⟩
theorem stable_ok(c:Gr hq h0)(a:Row h0 b (fe xs) 1)(d:hq.n<=b)(m:xs.length<20)(e: ∀x∈xs,x<N)(i:CmpF zM hq g post.toList N key):Ret zM 243 [.slice (some ⟨b,0,some 1⟩) xs.length xs.length,.int .i64 (xs.length:Nat),.func (.func g) #[] post] h0 fun _ h'=>Mo (· =b) h0 h'/\Row h' b (fe (kP key (xs.length-1) xs)) 1:=by
 have j:=c.ok;have k: ¬(20:Int)<=(xs.length:Int):=by omega
 have l: ¬(20:Int)<(xs.length:Int):=by omega
 have S:=Si j;refine erA (n:=63) (rs:=[]) Tryz.e243 ?_;simp only [BZ,seval];rw [cE];simp only [BZ,k,seval];refine step_ret (Fc c a d (by omega) e i) ?_;rintro r h ⟨f,R⟩;simp only [BZ];rw [cE];simp only [BZ,l,seval];exact⟨f,R⟩
theorem BD(c:Gr hq h0)(a:Row h0 b (fe xs) 1)(d:hq.n<=b)(e:xs.length<20)(f: ∀x∈xs,x<N)(i:CmpF zM hq g post.toList N key):Ret zM 188 [.slice (some ⟨b,0,some 1⟩) xs.length xs.length,.func (.func g) #[] post] h0 fun _ h'=>Mo (· =b) h0 h'/\Row h' b (fe (kP key (xs.length-1) xs)) 1:=by
 refine erA (n:=9) (rs:=[]) Tryz.e188 ?_;simp only [BZ,seval];refine step_ret (stable_ok c a d e f i) ?_;rintro r h q;simp only [BZ];exact q
theorem CC(j:OZ h0){v:Value}(k:aw h0 1 bM v xs)(u:xs.length<1000000)(d:xs≠ []):Ret zM 81 [v] h0 fun r h'=>Gr h0 h'/\ ∃b,r=.slice (some ⟨b,0,some 1⟩) xs.length xs.length/\Row h' b (fe xs) 1/\h0.n<=b:=by
 have S:=Si j;rcases k with⟨_,rfl⟩|⟨b,o,s,c,rfl,l,m⟩
 . exact absurd rfl d
 . refine erA (n:=8) (rs:=[.tmp 2]) Tryz.e81 ?_;simp only [BZ,seval];refine ab (bZ (by exact Tryz.t41.1) (by exact Tryz.e3E) (by decide) (by rfl)) S ?_;clear S;intro h x S f;simp only [LC,bJ,cd,ac,Xm,Xi,Xj,Xp,seval]at S;simp only [BZ,seval];have p:=S.fr.n;refine dT (S.cloneW (enc:=bM) (ys:=xs) Tryz.t41.1 Tryz.e3E (by decide) Tryz.t41.2.2.2.2.2 (.inr ⟨b,o,s,c,rfl,l,S.old m (fun h=>h)⟩) dr (by decide) (by omega) (S.row m0)) ?_;rintro h' v ⟨q,g,y,t,w⟩;obtain⟨i,rfl,a⟩:=w d;simp only [BZ,aa,seval];rw [tq]at a;exact⟨q.gr,i,rfl,a,(t i rfl).elim (fun e=>by omega) (fun e=>Xk p e)⟩
theorem first_ok(j:Gr hq h0){v:Value}(t:aw h0 1 bM v xs)(d:xs≠ [])(u:xs.length<20)(w: ∀x∈xs,x<N)(i:CmpF zM hq g post.toList N key)(C:1<=m):Ret zM 109 [v,.int .i64 (m:Nat),.func (.func g) #[] post] h0 fun r h'=>Gr h0 h'/\aw h' 1 bM r ((kP key (xs.length-1) xs).take (min m xs.length))/\ ∀c,ar r c->h0.n<=c:=by
 have y:=j.ok;have z:min (m:Int) (xs.length:Int)=((min m xs.length:Nat):Int):=by omega
 have q:=sX (key:=key) (l:=xs) (xs.length-1) (by cases xs with|nil=>exact absurd rfl d|cons a l=>simp);have S:=Si y;refine erA (n:=18) (rs:=[.tmp 6]) Tryz.e109 ?_;simp only [BZ,seval];refine step_ret (CC S.ok t (by omega) d) ?_;rintro r h ⟨s,b,rfl,k,A⟩;have o:hq.n<=b:=Xk j.n A;simp only [BZ,seval];refine step_ret (BD (j.trans s) k o u w i) ?_;rintro r D ⟨f,R⟩;have B:=Dx (kd:=.i64) (b:=b) (len:=xs.length) (n:=min m xs.length) Tryz.t41.1 Tryz.t3.2.2.1 (cap:=xs.length) (Nat.min_le_right _ _);simp only [BZ,aa,XN,Yg,z,B,seval];refine⟨((s.fr (M:=NoM)).trans f (fun c e=>.inr (by omega))).gr,?_,fun c i=>by have i:b=c:=i;omega⟩;have p:((kP key (xs.length-1) xs).take (min m xs.length)).length=min m xs.length:=by rw [XM,q.length_eq];omega
 refine .inr ⟨b,0,some 1,xs.length,by rw [p],by rw [p];exact Nat.min_le_right _ _,?_⟩;rw [p,R.load (by rw [mN,q.length_eq];omega),tq,XE,Xj];unfold fe;rw [List.map_take]
theorem rep64_ok(t:OZ h0){v:Value}(u:aw h0 1 (encI .i64) v [x])(a:1<=N)(y:N<1000):Ret zM 235 [v,.int .i64 N] h0 fun r h'=>Gr h0 h'/\ ∃b,r=.slice (some ⟨b,0,none⟩) N N/\h0.n<=b/\Row h' b (Xh N (.int .i64 x)) 1:=by
 have S:=Si t;have z: ¬((N:Int)<0):=by omega
 have A: ¬((9223372036854775807:Int)<(N:Int)):=by omega
 have B:am .u64 (N:Int)=(N:Int):=zz (by omega) (by omega);have C:am .u64 1=1:=rfl;have D:am .i64 (N:Int)=(N:Int):=by rw [wrap64]<;>omega
 obtain⟨J,K,L,M,rfl,E,F⟩: ∃b o s c,v=.slice (some ⟨b,o,s⟩) 1 c/\1<=c/\h0.load b o 1=some [.int .i64 x]:=by
  rcases u with⟨_,h⟩|⟨b,o,s,c,rfl,G,H⟩
  . cases h
  . exact⟨b,o,s,c,rfl,G,H⟩
 refine erA (n:=48) (rs:=[.tmp 4]) Tryz.e235 ?_;simp only [BZ,jJ,cZ,jM,Xb,z,B,C,seval];refine ae (mul_ok S.ok y) ?_;intro h g;replace S:=S.call g;simp only [BZ,jJ,cZ,jM,A,D,seval];refine ab (mJ (by exact Tryz.t23.1) (by exact Tryz.e2E) (by omega) (by omega)) S ?_;clear S;intro h j S d;rw [XF,pQ]at S;simp only [BZ,XF,seval];refine dT (S.copyO (i:=0) (l:=Xh 1 (.int .i64 x)) rfl Tryz.t23.1 Tryz.t2.2.2.1 (by rw [lN a];decide) (by rw [lN a];exact S.old F (fun h=>h)) (by simp;omega) rfl) ?_;clear S;rintro h w ⟨rfl,S⟩;simp only [LC]at S;rw [show Xh N (Value.int .i64 0)=Xh 0 (.int .i64 x)++Xh N (.int .i64 0) by simp,xh a]at S;rw [lN a];simp only [BZ,Xb,seval];refine aX (fun(n:Nat) m h=>1<=n/\n<=N/\St NoM h0 h [(j,.row (Xh n (.int .i64 x)++Xh (N-n) (.int .i64 0)) 1)] []/\m 7=.slice (some ⟨j,0,none⟩) N N/\m 8=.int .i64 n) (fun n=>N-n) ?_ 1 _ _ ?_
 . clear S;intro n I m h ⟨hn1,hn,S,r7,r8⟩;by_cases hlt:n<N
   . simp only [BZ,r7,r8,aE,hlt,seval];refine ao (av rfl) (q:=0) (ps:=[]) (by kernel_rfl) ?_;simp only [BZ,cls,XN,Yg,r7,r8,Ct Tryz.t23.1 Tryz.t2.2.2.1 hlt,A8 Tryz.t23.1 Tryz.t2.2.2.1 (YG hlt),seval];have p:0<dV n (N-n):=by
      rcases Yo n (N-n)with h|h
      . rw [lN h];omega
      . rw [wK h];omega
     have f:dV n (N-n)<=N-n/\dV n (N-n)<=n:=by
      rcases Yo n (N-n)with h|h
      . rw [lN h];omega
      . rw [wK h];omega
     refine lu (S.copyO (i:=0) (l:=Xh (dV n (N-n)) (.int .i64 x)) rfl Tryz.t23.1 Tryz.t2.2.2.1 p ?_ (by simp;omega) (by simp;right;rfl)) ?_
     . rw [(S.row m0).load (by simp;omega),Xj,XE];congr 1;rw [Yh (by simp;omega),YD];congr 1;omega
     clear S;rintro h w ⟨rfl,S⟩;simp only [LC]at S;rw [xh f.1]at S;generalize dV n (N-n)=k at S p f;have w:am .i64 ((n:Int)+(k:Int))=((n+k:Nat):Int):=(by rw [wrap64]<;>omega);simp only [BZ,cls,w,seval];exact I (n+k) _ _ (by omega) ⟨by omega,by omega,by rw [show N-(n+k)=N-n-k by omega];exact S,by simp [aB,r7]⟩
   . simp only [BZ,aa,r7,r8,aE,hlt,seval];have e:n=N:=(by omega);subst e;have R:=S.row (b:=j) m0;rw [Yf,YE,XG]at R;exact⟨S.gr,j,rfl,d,R⟩
 . exact⟨XD _,a,by simpa using S,by simp [aB]⟩
theorem repI_ok(t:OZ h0){v:Value}(u:aw h0 1 (encI .i64) v [x])(a:1<=N)(y:N<1000):Ret zM 196 [v,.int .i64 N] h0 fun r h'=>Gr h0 h'/\ ∃b,r=.slice (some ⟨b,0,none⟩) N N/\h0.n<=b/\Row h' b (Xh N (.int .i64 x)) 1:=by
 have S:=Si t;have z: ¬((N:Int)<0):=by omega
 have A: ¬((9223372036854775807:Int)<(N:Int)):=by omega
 have B:am .u64 (N:Int)=(N:Int):=zz (by omega) (by omega);have C:am .u64 1=1:=rfl;have D:am .i64 (N:Int)=(N:Int):=by rw [wrap64]<;>omega
 obtain⟨J,K,L,M,rfl,E,F⟩: ∃b o s c,v=.slice (some ⟨b,o,s⟩) 1 c/\1<=c/\h0.load b o 1=some [.int .i64 x]:=by
  rcases u with⟨_,h⟩|⟨b,o,s,c,rfl,G,H⟩
  . cases h
  . exact⟨b,o,s,c,rfl,G,H⟩
 refine erA (n:=48) (rs:=[.tmp 4]) Tryz.e196 ?_;simp only [BZ,jJ,cZ,jM,Xb,z,B,C,seval];refine ae (mul_ok S.ok y) ?_;intro h g;replace S:=S.call g;simp only [BZ,jJ,cZ,jM,A,D,seval];refine ab (mJ (by exact Tryz.t41.1) (by exact Tryz.e3E) (by omega) (by omega)) S ?_;clear S;intro h j S d;rw [XF,pQ]at S;simp only [BZ,XF,seval];refine dT (S.copyO (i:=0) (l:=Xh 1 (.int .i64 x)) rfl Tryz.t41.1 Tryz.t3.2.2.1 (by rw [lN a];decide) (by rw [lN a];exact S.old F (fun h=>h)) (by simp;omega) rfl) ?_;clear S;rintro h w ⟨rfl,S⟩;simp only [LC]at S;rw [show Xh N (Value.int .i64 0)=Xh 0 (.int .i64 x)++Xh N (.int .i64 0) by simp,xh a]at S;rw [lN a];simp only [BZ,Xb,seval];refine aX (fun(n:Nat) m h=>1<=n/\n<=N/\St NoM h0 h [(j,.row (Xh n (.int .i64 x)++Xh (N-n) (.int .i64 0)) 1)] []/\m 7=.slice (some ⟨j,0,none⟩) N N/\m 8=.int .i64 n) (fun n=>N-n) ?_ 1 _ _ ?_
 . clear S;intro n I m h ⟨hn1,hn,S,r7,r8⟩;by_cases hlt:n<N
   . simp only [BZ,r7,r8,aE,hlt,seval];refine ao (av rfl) (q:=0) (ps:=[]) (by kernel_rfl) ?_;simp only [BZ,cls,XN,Yg,r7,r8,Ct Tryz.t41.1 Tryz.t3.2.2.1 hlt,A8 Tryz.t41.1 Tryz.t3.2.2.1 (YG hlt),seval];have p:0<dV n (N-n):=by
      rcases Yo n (N-n)with h|h
      . rw [lN h];omega
      . rw [wK h];omega
     have f:dV n (N-n)<=N-n/\dV n (N-n)<=n:=by
      rcases Yo n (N-n)with h|h
      . rw [lN h];omega
      . rw [wK h];omega
     refine lu (S.copyO (i:=0) (l:=Xh (dV n (N-n)) (.int .i64 x)) rfl Tryz.t41.1 Tryz.t3.2.2.1 p ?_ (by simp;omega) (by simp;right;rfl)) ?_
     . rw [(S.row m0).load (by simp;omega),Xj,XE];congr 1;rw [Yh (by simp;omega),YD];congr 1;omega
     clear S;rintro h w ⟨rfl,S⟩;simp only [LC]at S;rw [xh f.1]at S;generalize dV n (N-n)=k at S p f;have w:am .i64 ((n:Int)+(k:Int))=((n+k:Nat):Int):=(by rw [wrap64]<;>omega);simp only [BZ,cls,w,seval];exact I (n+k) _ _ (by omega) ⟨by omega,by omega,by rw [show N-(n+k)=N-n-k by omega];exact S,by simp [aB,r7]⟩
   . simp only [BZ,aa,r7,r8,aE,hlt,seval];have e:n=N:=(by omega);subst e;have R:=S.row (b:=j) m0;rw [Yf,YE,XG]at R;exact⟨S.gr,j,rfl,d,R⟩
 . exact⟨XD _,a,by simpa using S,by simp [aB]⟩
def qL(A:List Arc)(f:Arc->Nat)(a:List Nat):List (List Value):=a.map fun(id:Nat)=>[.int .i64 id,.agg ⟨cQ ⟨0,f (A.getD id default),(A.getD id default).w⟩⟩]
theorem arcs_ok'(g:OZ h0)(i:Fl p)(j:Fl e)(k:Fl f):Ret zM 236 [p,e,f] h0 fun v h'=>Gr h0 h'/\ ∃b1 b2 a,v=.func (.func 263) #[] #[ptrTo b1,ptrTo b2,ptrTo a]/\h0.n<=b1/\h0.n<=b2/\h0.n<=a/\h'.load b1 0 1=some [e]/\h'.load b2 0 1=some [p]/\h'.load a 0 1=some [f]:=by have S:=Si g;refine erA (n:=8) (rs:=[.tmp 6]) Tryz.e236 ?_;simp only [BZ,seval];refine ab (bz (by assumption)) S ?_;clear S;intro h b2 S b;simp only [BZ,if_false,seval];refine ab (bz (by assumption)) S ?_;clear S;intro h b1 S c;simp only [BZ,if_false,seval];refine ab (bz (by assumption)) S ?_;clear S;intro h a S d;simp only [BZ,aa,seval];exact⟨S.gr,b1,b2,a,rfl,c,b,d,S.ld m1 rfl,S.ld m2 rfl,S.ld m0 rfl⟩
theorem arcs_it(C:OZ hq)(k:OZ h0)(N:eZ hq h0)(O:hq.n<=h0.n){e:Gra}{G:Nat}(P:aP hq G p e){d:List Nat}(H:aw h0 1 bM r d)(u: ∀id∈d,id<e.arcs.length)(I:d.length<1000){f:Arc->Nat}(Q:KeyF zM g f)(R:h0.load b1 0 1=some [r])(T:h0.load b2 0 1=some [p])(U:h0.load t 0 1=some [.func (.func g) #[] #[]]):lz zM 263 [] [ptrTo b1,ptrTo b2,ptrTo t] h0 (fun c=>c=b1\/c=b2\/c=t\/ar r c\/c<hq.n) (qL e.arcs f d):=by
 intro V J Z W Y h F s A;refine enA (n:=32) (rs:=[]) Tryz.e263 ?_;have K:=s.load k R (.inl rfl);simp only [BZ,K,H.lenq,seval];refine aX (fun(i:Nat) l h=>i<=d.length/\ ∃F,ItS h0 (fun c=>c=b1\/c=b2\/c=t\/ar r c\/c<hq.n) h F/\J i h F/\l 0=.func (.yield V) #[] #[]/\l 1=ptrTo b1/\l 2=ptrTo b2/\l 3=ptrTo t/\l 9=r/\l 10=.int .i64 d.length/\l 11=.int .i64 i) (fun i=>d.length-i) ?_ 0 _ _ ?_
 . clear K;intro i X l h ⟨hi,F,s,A,r0,r1,r2,r3,r9,r10,r11⟩;by_cases hlt:i<d.length
   . obtain⟨c,o,x,D⟩:=(s.sl k H (fun b h=>.inr (.inr (.inr (.inl h))))).ix (kd:=.i64) dr hlt;have l2:=s.load k T (.inr (.inl rfl));have l3:=s.load k U (.inr (.inr (.inl rfl)));have y:=u _ (Xw hlt);have nt:aP h G p e:=P.keep C (s.keep N O (fun c hc=>.inr (.inr (.inr (.inr hc)))));have w:am .i64 ((i:Int)+1)=((i+1:Nat):Int):=(by rw [wrap64]<;>omega);have S:=Si s.ok;simp only [BZ,r2,r9,r10,r11,aE,hlt,x,D,bM,l2,seval];refine step_ret (jb S.ok nt y) ?_;rintro v h2 ⟨m,rfl⟩;replace S:=S.call m;clear m;simp only [BZ,seval];refine ab au S ?_;clear S;intro h E S L;simp only [BZ,cQ,seval];refine az (stA S (i:=0) Tryz.t135.2.1) ?_;clear S;rintro h ⟨S,mo⟩;clear mo;simp only [LC,ac,lay,Xd,Xe,seval]at S;simp only [BZ,seval];refine ao (av rfl) (q:=0) (ps:=[(4,6)]) (by kernel_rfl) ?_;simp only [BZ,cls,r0,r3,S.old l3 (fun h=>h),S.lds (b:=E) (o:=0) (n:=3) m0 (lbt rfl),seval];have z:=(S.row (b:=E) m0).lt S.ok;refine bj (Q _ e.arcs[d[i]] S.ok) ?_;intro M m;have B:=ag m z;replace S:=S.call m;clear m;simp only [BZ,cls,S.ld (b:=E) (o:=2) m0 rfl,seval];have gd:e.arcs.getD d[i] default=e.arcs[d[i]]:=(by simp [zO,y]);have hx:(qL e.arcs f d)[i]? =some [.int .i64 (d[i]:Nat),.agg ⟨[.int .i64 0,.int .i64 (f e.arcs[d[i]]:Nat),.int .i64 (e.arcs[d[i]].w:Nat)]⟩]:=(by unfold qL;rw [Xn,Xf hlt];simp only [XN,gd];rfl);refine dn_yield W Y (s.gr S.gr) (Y.gr _ _ _ _ A S.gr) (j:=i) hx ?_ ?_
     . intro M F' a s' _ _;simp only [BZ,cls,r11,w,seval];refine⟨by simp only [aI,aO,aF,aK,aH,ne_eq,not_false_eq_true,aU,aY,aN,aJ,bw,bN,aD,XA,r0,r1,r2,r3,ah,aq B,an B,seval],?_⟩;exact X (i+1) _ _ (by omega) ⟨by omega,F',s',a,by simp [aB,r0,r1,ah,r2,r3,r9,r10]⟩
     . intro M a _;simp only [BZ,cls,seval];refine⟨by simp only [aI,aO,aF,aK,aH,ne_eq,not_false_eq_true,aU,aY,aN,aJ,bw,bN,aD,XA,r0,r1,r2,r3,ah,aq B,an B,seval],?_⟩;exact gJ rfl ⟨rfl,.inr (.inl ⟨_,rfl,a⟩)⟩
   . simp only [BZ,r10,r11,aE,hlt,seval];have:i=d.length:=(by omega);subst this;exact bU (cy ⟨rfl,_,rfl,rfl,.inl ⟨_,F,rfl,by simpa [qL]using A⟩⟩)
 . exact⟨by omega,F,s,A,by simp [aB,cL,ah]⟩
theorem ints_set(l:List Int)(i:Nat)(x:Int):(ints l).set i (.int .i64 x)=ints (l.set i x):=by
 have e4: ∀l:List Int,ints l=l.map fun x=>Value.int .i64 x:=fun l=>by unfold ints;rw [Xq,XR,Xq];rfl
 rw [e4,e4,Yn]
theorem reach_ok(Y:OZ h0){G arc far:Nat}{vO:Value}{V:List (Value×Value×Nat)}{f:Int->Option Value}{j:List Int}(R:Row h0 br [p,U,.slice (some ⟨d,0,none⟩) N N,vO,.map (some G)] 1)(H:cF h0 F p N K)(Z:N<=1000)(a:h0.get G=some (.map V c))(MI:dQ V c f)(CF:ClF O f)(t:Row h0 d (ints j) 1)(D:j.length=N)(I:v<N)(Q:d∉F)(d2:br∉F)(d3:br≠d):Ret zM 237 [ptrTo br,.int .i64 v,.int .i64 arc,.int .i64 far] h0 fun _ h'=>Mo (fun c=>c∈F\/c=d) h0 h'/\ ∃F' m,cF h' F' p N (kI O K v far)/\(∀b∈F',b∈F\/h0.n<=b)/\Row h' d (ints m) 1/\m.length=N/\((kI O K v far=K/\m=j)\/(v∉O/\kI O K v far=dw K v (some (far:Int))/\m=j.set v arc)):=by
 have S:=Si Y;have ad:=t.lt Y;have J:=R.load1 (o:=0) rfl;have E:=R.load1 (o:=4) rfl;have l2:=R.load1 (o:=2) rfl;have pp: ∃b,p=ptrTo b:=by obtain⟨b,_,_,e,_⟩:=H.ex;exact⟨b,e⟩
 obtain⟨bp,rfl⟩:=pp;refine erA (n:=59) (rs:=[]) Tryz.e237 ?_;simp only [BZ,J,seval];refine ae (zt S.ok H) ?_;intro h g;replace S:=S.call g;replace a:h.get G=some (.map V c):=S.gr.at a;have T:=H.gr S.gr;have y:=lJ (x:=(v:Int)) Tryz.t230.1 Tryz.t3.1 (z:=.int .i64 0) (by kernel_rfl) a MI;rw [CF v]at y;replace J:=S.old J (fun h=>h);replace E:=S.old E (fun h=>h);replace l2:=S.old l2 (fun h=>h);replace t:Row h d (ints j) 1:=t.gr S.gr;have R1:=R.gr S.gr;have u:=S.gr;by_cases q:v∈O
 . rw [if_pos q,Xz]at y;simp only [BZ,E,y,seval];exact⟨u.fr,F,j,by unfold kI;rw [if_pos q];exact T,fun b l=>.inl l,t,D,.inl ⟨by unfold kI;rw [if_pos q],rfl⟩⟩
 . rw [if_neg q,XQ]at y;have af:=t.lt u.ok;cases L:K v with
   | none=>
     have w:kI O K v far=dw K v (some (far:Int)):=(by unfold kI;rw [if_neg q,L]);simp only [BZ,J,E,y,XQ,XC,seval];refine step_ret (qd u.ok T I Z L) ?_;rintro r A ⟨s,F',W,M⟩;have B:Row A d (ints j) 1:=s.has (o:=.row _ 1) t Q;have X:Row A br [ptrTo bp,U,.slice (some ⟨d,0,none⟩) N N,vO,.map (some G)] 1:=s.has (o:=.row _ 1) R1 d2;have C:=X.load1 (o:=2) rfl;have S:=St.init1 s.ok (o:=.row _ 1) B;simp only [BZ,C,I,seval];refine az (aA S (i:=0) rfl Tryz.t3.2.2.1 aM (by rw [cC,D];exact I) ono) ?_;clear S;rintro h3 ⟨S,P⟩;simp only [LC]at S;rw [ints_set]at S;simp only [BZ];refine⟨(u.fr.trans (s.mono (fun c a=>.inl a)) (fun c a=>.inl a):Mo (fun c=>c∈F\/c=d) h0 A).trans P (fun c a=>.inl (.inr a)),F',j.set v arc,by rw [w];exact W.mo P (fun b l e=>by subst e;rcases M b l with h|h;exact Q h;omega),fun b l=>(M b l).imp (fun h=>h) (fun h=>Xk u.n h),S.row m0,by rw [Xs];exact D,.inr ⟨q,w,rfl⟩⟩
   | some k=>
     by_cases hle:k<=(far:Int)
     . have w:kI O K v far=K:=(by unfold kI;rw [if_neg q,L];simp only [];rw [if_pos hle]);simp only [BZ,E,y,hle,Xz,seval];exact⟨u.fr,F,j,by rw [w];exact T,fun b l=>.inl l,t,D,.inl ⟨w,rfl⟩⟩
     . have w:kI O K v far=dw K v (some (far:Int)):=(by unfold kI;rw [if_neg q,L];simp only [];rw [if_neg hle]);simp only [BZ,J,E,y,hle,Xz,seval];refine step_ret (rL u.ok T Z L (by omega)) ?_;rintro r A ⟨s,W⟩;have B:Row A d (ints j) 1:=s.has (o:=.row _ 1) t Q;have X:Row A br [ptrTo bp,U,.slice (some ⟨d,0,none⟩) N N,vO,.map (some G)] 1:=s.has (o:=.row _ 1) R1 d2;have C:=X.load1 (o:=2) rfl;have S:=St.init1 s.ok (o:=.row _ 1) B;simp only [BZ,C,I,seval];refine az (aA S (i:=0) rfl Tryz.t3.2.2.1 aM (by rw [cC,D];exact I) ono) ?_;clear S;rintro h3 ⟨S,P⟩;simp only [LC]at S;rw [ints_set]at S;simp only [BZ];refine⟨(u.fr.trans (s.mono (fun c a=>.inl a)) (fun c a=>.inl a):Mo (fun c=>c∈F\/c=d) h0 A).trans P (fun c a=>.inl (.inr a)),F,j.set v arc,by rw [w];exact W.mo P (fun b l e=>by subst e;exact Q l),fun b l=>.inl l,S.row m0,by rw [Xs];exact D,.inr ⟨q,w,rfl⟩⟩
end Go.Ab
