/- Nets, cells, flags: what the functions do (part 1). -/
import Derived.Test.YtpnmkakfejadbabGreatDoorKfv
open Go.Ab.Tryz
open Go.Ab.Tryz renaming abEnv->zB
open List renaming mem_of_getElem?->zM,range->Xa,take->Xc,drop->Xd,length_append->Xf,getD_eq_getElem?_getD->Xg,take_succ_eq_append_getElem->Xm,getElem?_eq_getElem->Xn,length_take->Xo,getElem?_append_right->Xq,flatMap_append->Xs,getElem?_map->Xt,ext_getElem?->Xu,append_nil->Xw,drop_zero->Xz,take_succ_cons->XB,getElem?_append_left->XC,take_of_length_le->XE,getElem_mem->XH,take_length->XI,length_cons->XJ,take_zero->XK,length_set->XL,map_cons->XM,getElem?_replicate->XN,mem_cons->XP,nodup_append->XR,replicate->XS,append_assoc->XW,getElem?_set->XX,flatMap_eq_foldl->XZ,not_mem_nil->X2,getElem?_append->X3,length_flatMap->X7,map_const'->X8,length_nil->X9,drop_eq_getElem_cons->Ya,nodup_cons->Yb,flatMap_cons->Yg,flatMap_nil->Yi,cons_append->Yj,length_singleton->Yl,getElem?_eq_none->Ym,length_replicate->Yo,range_succ->Yp,getElem?_range->Yr,filterMap_nil->Yt,map_nil->Yv,getElem?_cons_zero->YB,getElem?_cons_succ->YC,mem_range->YH,length_filter_le->YI,drop_succ_cons->YL,replicate_succ->YM,map_eq_flatMap->YN
open Nat renaming lt_of_succ_le->zO,mul_one->Xb,ble_eq_true_of_le->Xh,zero_add->Xj,zero_mul->Xk,le_trans->Xl,one_mul->Xp,zero_le->Xv,le_refl->Xx,shiftRight_eq_div_pow->Xy,pow_le_pow_right->XA,mod_eq_of_lt->XO,testBit_mod_two_pow->XT,xor_lt_two_pow->XU,div_div_eq_div_mul->XV,beq->XY,mul_le_mul_right->X4,ble->Yd,blt->Ye,blt_eq->Yf,eq_of_beq_eq_true->Yk,sub_zero->Yq,lt_of_lt_of_le->Ys,mod_two_eq_zero_or_one->Yu,beq_refl->Yw,add_zero->Yy,pow_succ->Yz,mul_comm->YA,add_sub_cancel_left->YD,testBit_two_pow_mul->YE,testBit_div_two_pow->YF,min_eq_left->YG,eq_of_testBit_eq->YK,sub_self->YO,xor_zero->YP
open Int renaming cast_ofNat_Int->Xe,tmod_eq_emod_of_nonneg->X5,tdiv_eq_ediv_of_nonneg->X6,toNat_natCast->Yh,ofNat->Yn,ofNat_eq_natCast->YJ
open And renaming intro->Xi
open Option renaming isSome_none->Xr,map_some->XD,getD_some->XG,map_none->Yc,getD_none->Yx
open Bool renaming and_true->XF
open Prod renaming fst->XQ
set_option maxHeartbeats 4000000
set_option linter.defProp false
set_option linter.unusedVariables false
set_option linter.unusedSimpArgs false
namespace Go.Ab
variable{a c d h h' hq:Hp}
variable{N S b cap e i j k m many md n o off r u y:Nat}
variable{A bad:Bool}
variable{Z args cs:List Value}
variable{E:Env}
variable{V f g p q v vx vy w z:Value}
variable{body:Code}
variable{rs:List ResultVar}
variable{D M:Nat->Prop}
variable{L:List (Nat×Ob)}
variable{G:List GL}
variable{ps:List (Nat×Nat)}
variable{J:Nat->Hp->List Nat->Prop}
variable{x:Int}
variable{ks xs:List Int}
variable{R:Nat->List Nat}
variable{ρ:Operand->Value}
variable{K:Nat->Option Int}
variable{B:List Arc}
variable{ex':Arc->Prop}
variable{o1 o2:Ob}
variable{k' kd:IntKind}
variable{cx:Cx}
variable{os:List Oper}
variable{F:List Nat}
theorem Si(a:OZ h):St NoM h h [] []:=St.init a
theorem aj{a b:Prop}(x:a)(y:b):a/\b:=⟨x,y⟩
set_option linter.defProp false in
def LC:=Xi @List.set_cons_zero.{0}<|Xi @List.set_cons_succ.{0}<|Xi @List.cons_append.{0}<|Xi @List.nil_append.{0}<|Xi @List.append_nil.{0}<|Xi @List.length_cons.{0}<|Xi @List.length_nil.{0}<|@Nat.add_zero
theorem lbt{a:Nat}(h:Yd a b=true):a<=b:=Nat.le_of_ble_eq_true h
theorem ono:(1:Nat)≠0:=Nat.one_ne_zero
set_option linter.defProp false in
def LB:=Xi @if_true.{1}<|Xi @if_false.{1}<|Xi @eq_self.{1}<|Xi @List.map_cons.{0,0}<|Xi @List.map_nil.{0,0}<|Xi @List.append_nil.{0}<|Xi @List.nil_append.{0}<|Xi @List.cons_append.{0}<|Xi @List.getElem?_cons_zero.{0}<|Xi @List.getElem?_cons_succ.{0}<|Xi @List.set_cons_zero.{0}<|Xi @List.set_cons_succ.{0}<|Xi @List.length_cons.{0}<|Xi @List.length_nil.{0}<|Xi @Nat.add_zero<|Xi @Nat.zero_add<|Xi @Nat.mul_one<|Xi @Nat.zero_mul<|Xi @cond_true.{1}<|Xi @cond_false.{1}<|Xi @decide_true<|Xi @decide_false<|Xi @Bool.and_true<|Xi @Bool.and_false<|Xi @Bool.not_false<|Xi @Bool.not_true<|Xi @true_and<|Xi @and_true<|Xi @Option.isSome_some.{0}<|@List.map_toArray.{0,0}
open Go.Proofs
namespace Tryz
abbrev TQ0(i:TypeId)(A:Bool)(S:Nat)(Z:List Value):Prop:=abEnv.agg i=some A/\abEnv.sz i=some S/\abEnv.zero i=some Z/\eK zB i=some false
theorem kTQ0{i:TypeId}(h:(abEnv.agg i,abEnv.sz i,abEnv.zero i,eK zB i)=(some A,some S,some Z,some false)):TQ0 i A S Z:=by simpa only [Prod.mk.injEq]using h
abbrev TQ1(i:TypeId)(U:TypeDesc)(A:Bool)(S:Nat)(Z:List Value):Prop:=abEnv.und i=some U/\abEnv.agg i=some A/\abEnv.sz i=some S/\abEnv.zero i=some Z/\mK zB i=true
theorem kTQ1{i:TypeId}{U:TypeDesc}(h:(abEnv.und i,abEnv.agg i,abEnv.sz i,abEnv.zero i,mK zB i)=(some U,some A,some S,some Z,true)):TQ1 i U A S Z:=by simpa only [Prod.mk.injEq]using h
abbrev TQ2(i:TypeId)(U:TypeDesc)(A:Bool)(S:Nat)(Z:List Value):Prop:=abEnv.und i=some U/\abEnv.agg i=some A/\abEnv.sz i=some S/\abEnv.zero i=some Z/\eK zB i=some false
theorem kTQ2{i:TypeId}{U:TypeDesc}(h:(abEnv.und i,abEnv.agg i,abEnv.sz i,abEnv.zero i,eK zB i)=(some U,some A,some S,some Z,some false)):TQ2 i U A S Z:=by simpa only [Prod.mk.injEq]using h
abbrev TQ3(i:TypeId)(A:Bool)(S:Nat)(Z:List Value)(P:List (Nat×Nat)):Prop:=abEnv.agg i=some A/\abEnv.sz i=some S/\abEnv.zero i=some Z/\mK zB i=true/\eK zB i=some false/\placesOf zB i=some P
theorem kTQ3{i:TypeId}{P:List (Nat×Nat)}(h:(abEnv.agg i,abEnv.sz i,abEnv.zero i,mK zB i,eK zB i,placesOf zB i)=(some A,some S,some Z,true,some false,some P)):TQ3 i A S Z P:=by simpa only [Prod.mk.injEq]using h
abbrev TQ4(i:TypeId)(U:TypeDesc)(A:Bool)(S:Nat)(Z:List Value):Prop:=abEnv.und i=some U/\abEnv.agg i=some A/\abEnv.sz i=some S/\abEnv.zero i=some Z/\isSl zB i=true/\eK zB i=some false
theorem kTQ4{i:TypeId}{U:TypeDesc}(h:(abEnv.und i,abEnv.agg i,abEnv.sz i,abEnv.zero i,isSl zB i,eK zB i)=(some U,some A,some S,some Z,true,some false)):TQ4 i U A S Z:=by simpa only [Prod.mk.injEq]using h
abbrev TQ5(i:TypeId)(U:TypeDesc)(A:Bool)(S:Nat)(Z:List Value):Prop:=abEnv.und i=some U/\abEnv.agg i=some A/\abEnv.sz i=some S/\abEnv.zero i=some Z/\pX zB i=true/\mK zB i=true/\eK zB i=some false
theorem kTQ5{i:TypeId}{U:TypeDesc}(h:(abEnv.und i,abEnv.agg i,abEnv.sz i,abEnv.zero i,pX zB i,mK zB i,eK zB i)=(some U,some A,some S,some Z,true,true,some false)):TQ5 i U A S Z:=by simpa only [Prod.mk.injEq]using h
abbrev TQ6(i:TypeId)(A:Bool)(S:Nat)(Z:List Value):Prop:=abEnv.agg i=some A/\abEnv.sz i=some S/\abEnv.zero i=some Z/\isIface zB i=true/\eK zB i=some false
theorem kTQ6{i:TypeId}(h:(abEnv.agg i,abEnv.sz i,abEnv.zero i,isIface zB i,eK zB i)=(some A,some S,some Z,true,some false)):TQ6 i A S Z:=by simpa only [Prod.mk.injEq]using h
abbrev TQ7(i:TypeId)(A:Bool)(S:Nat)(Z:List Value):Prop:=abEnv.agg i=some A/\abEnv.sz i=some S/\abEnv.zero i=some Z/\mK zB i=true/\eK zB i=some false
theorem kTQ7{i:TypeId}(h:(abEnv.agg i,abEnv.sz i,abEnv.zero i,mK zB i,eK zB i)=(some A,some S,some Z,true,some false)):TQ7 i A S Z:=by simpa only [Prod.mk.injEq]using h
abbrev TR0(i:TypeId)(f o1 o2 o3:Nat):Prop:=(∀(b o:Nat) (s:Option Nat),aM zB i (.pointer (some ⟨b,o,s⟩)) 0=some (.pointer (some ⟨b,o+f,none⟩))/\aM zB i (.pointer (some ⟨b,o,s⟩)) 1=some (.pointer (some ⟨b,o+o1,none⟩))/\aM zB i (.pointer (some ⟨b,o,s⟩)) 2=some (.pointer (some ⟨b,o+o2,none⟩))/\aM zB i (.pointer (some ⟨b,o,s⟩)) 3=some (.pointer (some ⟨b,o+o3,none⟩)))/\ ∀a c d e:Value,bZ zB i (.agg ⟨[a,c,d,e]⟩) 0=some a/\bZ zB i (.agg ⟨[a,c,d,e]⟩) 1=some c/\bZ zB i (.agg ⟨[a,c,d,e]⟩) 2=some d/\bZ zB i (.agg ⟨[a,c,d,e]⟩) 3=some e
abbrev TR1(i:TypeId)(g o1 o2 o3 h:Nat):Prop:=(∀(b o:Nat) (s:Option Nat),aM zB i (.pointer (some ⟨b,o,s⟩)) 0=some (.pointer (some ⟨b,o+g,none⟩))/\aM zB i (.pointer (some ⟨b,o,s⟩)) 1=some (.pointer (some ⟨b,o+o1,none⟩))/\aM zB i (.pointer (some ⟨b,o,s⟩)) 2=some (.pointer (some ⟨b,o+o2,none⟩))/\aM zB i (.pointer (some ⟨b,o,s⟩)) 3=some (.pointer (some ⟨b,o+o3,none⟩))/\aM zB i (.pointer (some ⟨b,o,s⟩)) 4=some (.pointer (some ⟨b,o+h,none⟩)))/\ ∀a c d e f:Value,bZ zB i (.agg ⟨[a,c,d,e,f]⟩) 0=some a/\bZ zB i (.agg ⟨[a,c,d,e,f]⟩) 1=some c/\bZ zB i (.agg ⟨[a,c,d,e,f]⟩) 2=some d/\bZ zB i (.agg ⟨[a,c,d,e,f]⟩) 3=some e/\bZ zB i (.agg ⟨[a,c,d,e,f]⟩) 4=some f
abbrev TR2(i:TypeId)(e o1 o2:Nat):Prop:=(∀(b o:Nat) (s:Option Nat),aM zB i (.pointer (some ⟨b,o,s⟩)) 0=some (.pointer (some ⟨b,o+e,none⟩))/\aM zB i (.pointer (some ⟨b,o,s⟩)) 1=some (.pointer (some ⟨b,o+o1,none⟩))/\aM zB i (.pointer (some ⟨b,o,s⟩)) 2=some (.pointer (some ⟨b,o+o2,none⟩)))/\ ∀a c d:Value,bZ zB i (.agg ⟨[a,c,d]⟩) 0=some a/\bZ zB i (.agg ⟨[a,c,d]⟩) 1=some c/\bZ zB i (.agg ⟨[a,c,d]⟩) 2=some d
abbrev TR3(i:TypeId)(l o1 o2 o3:Nat):Prop:=(∀(b o:Nat) (s:Option Nat),aM zB i (.pointer (some ⟨b,o,s⟩)) 0=some (.pointer (some ⟨b,o+l,none⟩))/\aM zB i (.pointer (some ⟨b,o,s⟩)) 1=some (.pointer (some ⟨b,o+o1,none⟩))/\aM zB i (.pointer (some ⟨b,o,s⟩)) 2=some (.pointer (some ⟨b,o+o2,none⟩))/\aM zB i (.pointer (some ⟨b,o,s⟩)) 3=some (.pointer (some ⟨b,o+o3,none⟩)))/\ ∀a c d e f g h j k:Value,bZ zB i (.agg ⟨[a,c,d,e,f,g,h,j,k]⟩) 0=some (.agg ⟨[a,c,d,e]⟩)/\bZ zB i (.agg ⟨[a,c,d,e,f,g,h,j,k]⟩) 1=some (.agg ⟨[f,g,h]⟩)/\bZ zB i (.agg ⟨[a,c,d,e,f,g,h,j,k]⟩) 2=some j/\bZ zB i (.agg ⟨[a,c,d,e,f,g,h,j,k]⟩) 3=some k
abbrev TR4(i:TypeId)(d o1:Nat):Prop:=(∀(b o:Nat) (s:Option Nat),aM zB i (.pointer (some ⟨b,o,s⟩)) 0=some (.pointer (some ⟨b,o+d,none⟩))/\aM zB i (.pointer (some ⟨b,o,s⟩)) 1=some (.pointer (some ⟨b,o+o1,none⟩)))/\ ∀a c:Value,bZ zB i (.agg ⟨[a,c]⟩) 0=some a/\bZ zB i (.agg ⟨[a,c]⟩) 1=some c
abbrev TR5(i:TypeId)(c:Nat):Prop:=(∀(b o:Nat) (s:Option Nat),aM zB i (.pointer (some ⟨b,o,s⟩)) 0=some (.pointer (some ⟨b,o+c,none⟩)))/\ ∀a:Value,bZ zB i (.agg ⟨[a]⟩) 0=some a
abbrev TR6(i:TypeId)(p o1 o2 o3 q r t u v w n:Nat):Prop:=(∀(b o:Nat) (s:Option Nat),aM zB i (.pointer (some ⟨b,o,s⟩)) 0=some (.pointer (some ⟨b,o+p,none⟩))/\aM zB i (.pointer (some ⟨b,o,s⟩)) 1=some (.pointer (some ⟨b,o+o1,none⟩))/\aM zB i (.pointer (some ⟨b,o,s⟩)) 2=some (.pointer (some ⟨b,o+o2,none⟩))/\aM zB i (.pointer (some ⟨b,o,s⟩)) 3=some (.pointer (some ⟨b,o+o3,none⟩))/\aM zB i (.pointer (some ⟨b,o,s⟩)) 4=some (.pointer (some ⟨b,o+q,none⟩))/\aM zB i (.pointer (some ⟨b,o,s⟩)) 5=some (.pointer (some ⟨b,o+r,none⟩))/\aM zB i (.pointer (some ⟨b,o,s⟩)) 6=some (.pointer (some ⟨b,o+t,none⟩))/\aM zB i (.pointer (some ⟨b,o,s⟩)) 7=some (.pointer (some ⟨b,o+u,none⟩))/\aM zB i (.pointer (some ⟨b,o,s⟩)) 8=some (.pointer (some ⟨b,o+v,none⟩))/\aM zB i (.pointer (some ⟨b,o,s⟩)) 9=some (.pointer (some ⟨b,o+w,none⟩))/\aM zB i (.pointer (some ⟨b,o,s⟩)) 10=some (.pointer (some ⟨b,o+n,none⟩)))/\ ∀c d e f g h j k l m a:Value,bZ zB i (.agg ⟨[c,d,e,f,g,h,j,k,l,m,a]⟩) 0=some c/\bZ zB i (.agg ⟨[c,d,e,f,g,h,j,k,l,m,a]⟩) 1=some d/\bZ zB i (.agg ⟨[c,d,e,f,g,h,j,k,l,m,a]⟩) 2=some e/\bZ zB i (.agg ⟨[c,d,e,f,g,h,j,k,l,m,a]⟩) 3=some f/\bZ zB i (.agg ⟨[c,d,e,f,g,h,j,k,l,m,a]⟩) 4=some g/\bZ zB i (.agg ⟨[c,d,e,f,g,h,j,k,l,m,a]⟩) 5=some h/\bZ zB i (.agg ⟨[c,d,e,f,g,h,j,k,l,m,a]⟩) 6=some j/\bZ zB i (.agg ⟨[c,d,e,f,g,h,j,k,l,m,a]⟩) 7=some k/\bZ zB i (.agg ⟨[c,d,e,f,g,h,j,k,l,m,a]⟩) 8=some l/\bZ zB i (.agg ⟨[c,d,e,f,g,h,j,k,l,m,a]⟩) 9=some m/\bZ zB i (.agg ⟨[c,d,e,f,g,h,j,k,l,m,a]⟩) 10=some a
abbrev TR7(i:TypeId)(h o1 o2:Nat):Prop:=(∀(b o:Nat) (s:Option Nat),aM zB i (.pointer (some ⟨b,o,s⟩)) 0=some (.pointer (some ⟨b,o+h,none⟩))/\aM zB i (.pointer (some ⟨b,o,s⟩)) 1=some (.pointer (some ⟨b,o+o1,none⟩))/\aM zB i (.pointer (some ⟨b,o,s⟩)) 2=some (.pointer (some ⟨b,o+o2,none⟩)))/\ ∀a c d e f g:Value,bZ zB i (.agg ⟨[a,c,d,e,f,g]⟩) 0=some (.agg ⟨[a,c,d,e]⟩)/\bZ zB i (.agg ⟨[a,c,d,e,f,g]⟩) 1=some f/\bZ zB i (.agg ⟨[a,c,d,e,f,g]⟩) 2=some g
abbrev TR8(i:TypeId)(h o1 o2:Nat):Prop:=(∀(b o:Nat) (s:Option Nat),aM zB i (.pointer (some ⟨b,o,s⟩)) 0=some (.pointer (some ⟨b,o+h,none⟩))/\aM zB i (.pointer (some ⟨b,o,s⟩)) 1=some (.pointer (some ⟨b,o+o1,none⟩))/\aM zB i (.pointer (some ⟨b,o,s⟩)) 2=some (.pointer (some ⟨b,o+o2,none⟩)))/\ ∀a c d e f g:Value,bZ zB i (.agg ⟨[a,c,d,e,f,g]⟩) 0=some a/\bZ zB i (.agg ⟨[a,c,d,e,f,g]⟩) 1=some c/\bZ zB i (.agg ⟨[a,c,d,e,f,g]⟩) 2=some (.agg ⟨[d,e,f,g]⟩)
abbrev TR9(i:TypeId)(h o1 o2 o3 j k:Nat):Prop:=(∀(b o:Nat) (s:Option Nat),aM zB i (.pointer (some ⟨b,o,s⟩)) 0=some (.pointer (some ⟨b,o+h,none⟩))/\aM zB i (.pointer (some ⟨b,o,s⟩)) 1=some (.pointer (some ⟨b,o+o1,none⟩))/\aM zB i (.pointer (some ⟨b,o,s⟩)) 2=some (.pointer (some ⟨b,o+o2,none⟩))/\aM zB i (.pointer (some ⟨b,o,s⟩)) 3=some (.pointer (some ⟨b,o+o3,none⟩))/\aM zB i (.pointer (some ⟨b,o,s⟩)) 4=some (.pointer (some ⟨b,o+j,none⟩))/\aM zB i (.pointer (some ⟨b,o,s⟩)) 5=some (.pointer (some ⟨b,o+k,none⟩)))/\ ∀a c d e f g:Value,bZ zB i (.agg ⟨[a,c,d,e,f,g]⟩) 0=some a/\bZ zB i (.agg ⟨[a,c,d,e,f,g]⟩) 1=some c/\bZ zB i (.agg ⟨[a,c,d,e,f,g]⟩) 2=some d/\bZ zB i (.agg ⟨[a,c,d,e,f,g]⟩) 3=some e/\bZ zB i (.agg ⟨[a,c,d,e,f,g]⟩) 4=some f/\bZ zB i (.agg ⟨[a,c,d,e,f,g]⟩) 5=some g
abbrev TR10(i:TypeId)(g o1 o2:Nat):Prop:=(∀(b o:Nat) (s:Option Nat),aM zB i (.pointer (some ⟨b,o,s⟩)) 0=some (.pointer (some ⟨b,o+g,none⟩))/\aM zB i (.pointer (some ⟨b,o,s⟩)) 1=some (.pointer (some ⟨b,o+o1,none⟩))/\aM zB i (.pointer (some ⟨b,o,s⟩)) 2=some (.pointer (some ⟨b,o+o2,none⟩)))/\ ∀a c d e f:Value,bZ zB i (.agg ⟨[a,c,d,e,f]⟩) 0=some a/\bZ zB i (.agg ⟨[a,c,d,e,f]⟩) 1=some (.agg ⟨[c,d,e]⟩)/\bZ zB i (.agg ⟨[a,c,d,e,f]⟩) 2=some f
abbrev TR11(i:TypeId)(e o1:Nat):Prop:=(∀(b o:Nat) (s:Option Nat),aM zB i (.pointer (some ⟨b,o,s⟩)) 0=some (.pointer (some ⟨b,o+e,none⟩))/\aM zB i (.pointer (some ⟨b,o,s⟩)) 1=some (.pointer (some ⟨b,o+o1,none⟩)))/\ ∀a c d:Value,bZ zB i (.agg ⟨[a,c,d]⟩) 0=some (.agg ⟨[a,c]⟩)/\bZ zB i (.agg ⟨[a,c,d]⟩) 1=some d
theorem t1:TQ0 1 false 1 [.nilFunc]:=kTQ0 (by kernel_rfl)
theorem t2:TQ1 2 (.int .i64) false 1 [.int .i64 0]:=kTQ1 (by kernel_rfl)
theorem e2E:ec zB 2 8 1 [.int .i64 0]:=⟨⟨_,rfl,by kernel_rfl,by kernel_rfl⟩,t2.2.2.2.1,rfl⟩
theorem t3:TQ1 3 (.int .i64) false 1 [.int .i64 0]:=kTQ1 (by kernel_rfl)
theorem e3E:ec zB 3 8 1 [.int .i64 0]:=⟨⟨_,rfl,by kernel_rfl,by kernel_rfl⟩,t3.2.2.2.1,rfl⟩
theorem t4:TQ2 4 .bool false 1 [.bool false]:=kTQ2 (by kernel_rfl)
theorem e4E:ec zB 4 1 1 [.bool false]:=⟨⟨_,rfl,by kernel_rfl,by kernel_rfl⟩,t4.2.2.2.1,rfl⟩
theorem t5:TQ1 5 (.int .u8) false 1 [.int .u8 0]:=kTQ1 (by kernel_rfl)
theorem e5E:ec zB 5 1 1 [.int .u8 0]:=⟨⟨_,rfl,by kernel_rfl,by kernel_rfl⟩,t5.2.2.2.1,rfl⟩
theorem t6:TQ1 6 (.int .u8) false 1 [.int .u8 0]:=kTQ1 (by kernel_rfl)
theorem t7:TQ3 7 true 4 [.int .i64 0,.int .i64 0,.bool false,.int .u8 0] [(0,1),(1,1),(2,1),(3,1)]:=kTQ3 (by kernel_rfl)
theorem r7:TR0 7 0 1 2 3:=⟨fun _ _ _=>⟨rfl,rfl,rfl,rfl⟩,fun _ _ _ _=>⟨rfl,rfl,rfl,rfl⟩⟩
theorem t8:TQ3 8 true 4 [.int .i64 0,.int .i64 0,.bool false,.int .u8 0] [(0,1),(1,1),(2,1),(3,1)]:=kTQ3 (by kernel_rfl)
theorem r8:TR0 8 0 1 2 3:=⟨fun _ _ _=>⟨rfl,rfl,rfl,rfl⟩,fun _ _ _ _=>⟨rfl,rfl,rfl,rfl⟩⟩
theorem t9:TQ2 9 .string false 1 [.string ⟨#[]⟩]:=kTQ2 (by kernel_rfl)
theorem t10:TQ2 10 .string false 1 [.string ⟨#[]⟩]:=kTQ2 (by kernel_rfl)
theorem t11:TQ2 11 .string false 1 [.string ⟨#[]⟩]:=kTQ2 (by kernel_rfl)
theorem t22:TQ4 22 (.slice 5) false 1 [.slice none 0 0]:=kTQ4 (by kernel_rfl)
theorem t23:TQ4 23 (.slice 2) false 1 [.slice none 0 0]:=kTQ4 (by kernel_rfl)
theorem e23E:ec zB 23 24 1 [.slice none 0 0]:=⟨⟨_,rfl,by kernel_rfl,by kernel_rfl⟩,t23.2.2.2.1,rfl⟩
theorem t25:TQ3 25 true 5 [.slice none 0 0,.slice none 0 0,.slice none 0 0,.int .u8 0,.slice none 0 0] [(0,1),(1,1),(2,1),(3,1),(4,1)]:=kTQ3 (by kernel_rfl)
theorem r25:TR1 25 0 1 2 3 4:=⟨fun _ _ _=>⟨rfl,rfl,rfl,rfl,rfl⟩,fun _ _ _ _ _=>⟨rfl,rfl,rfl,rfl,rfl⟩⟩
theorem t26:TQ2 26 (.array 3 5) true 3 [.int .u8 0,.int .u8 0,.int .u8 0]:=kTQ2 (by kernel_rfl)
theorem t27:TQ5 27 (.pointer 65) false 1 [.pointer none]:=kTQ5 (by kernel_rfl)
theorem t29:TQ1 29 (.int .i64) false 1 [.int .i64 0]:=kTQ1 (by kernel_rfl)
theorem t33:TQ4 33 (.slice 50) false 1 [.slice none 0 0]:=kTQ4 (by kernel_rfl)
theorem t35:TQ4 35 (.slice 81) false 1 [.slice none 0 0]:=kTQ4 (by kernel_rfl)
theorem t37:TQ3 37 true 4 [.int .i64 0,.slice none 0 0,.slice none 0 0,.slice none 0 0] [(0,1),(1,1),(2,1),(3,1)]:=kTQ3 (by kernel_rfl)
theorem r37:TR0 37 0 1 2 3:=⟨fun _ _ _=>⟨rfl,rfl,rfl,rfl⟩,fun _ _ _ _=>⟨rfl,rfl,rfl,rfl⟩⟩
theorem t38:TQ4 38 (.slice 3) false 1 [.slice none 0 0]:=kTQ4 (by kernel_rfl)
theorem e38E:ec zB 38 24 1 [.slice none 0 0]:=⟨⟨_,rfl,by kernel_rfl,by kernel_rfl⟩,t38.2.2.2.1,rfl⟩
theorem t39:TQ4 39 (.slice 23) false 1 [.slice none 0 0]:=kTQ4 (by kernel_rfl)
theorem t41:TQ3 41 true 3 [.slice none 0 0,.slice none 0 0,.slice none 0 0] [(0,1),(1,1),(2,1)]:=kTQ3 (by kernel_rfl)
theorem r41:TR2 41 0 1 2:=⟨fun _ _ _=>⟨rfl,rfl,rfl⟩,fun _ _ _=>⟨rfl,rfl,rfl⟩⟩
theorem t43:TQ3 43 true 9 [.int .i64 0,.slice none 0 0,.slice none 0 0,.slice none 0 0,.slice none 0 0,.slice none 0 0,.slice none 0 0,.slice none 0 0,.string ⟨#[]⟩] [(0,4),(4,3),(7,1),(8,1)]:=kTQ3 (by kernel_rfl)
theorem r43:TR3 43 0 4 7 8:=⟨fun _ _ _=>⟨rfl,rfl,rfl,rfl⟩,fun _ _ _ _ _ _ _ _ _=>⟨rfl,rfl,rfl,rfl⟩⟩
theorem t50:TQ3 50 true 2 [.int .i64 0,.string ⟨#[]⟩] [(0,1),(1,1)]:=kTQ3 (by kernel_rfl)
theorem r50:TR4 50 0 1:=⟨fun _ _ _=>⟨rfl,rfl⟩,fun _ _=>⟨rfl,rfl⟩⟩
theorem e50E:ec zB 50 24 2 [.int .i64 0,.string ⟨#[]⟩]:=⟨⟨_,rfl,by kernel_rfl,by kernel_rfl⟩,t50.2.2.1,rfl⟩
theorem t56:TQ5 56 (.pointer 142) false 1 [.pointer none]:=kTQ5 (by kernel_rfl)
theorem t61:TQ5 61 (.pointer 117) false 1 [.pointer none]:=kTQ5 (by kernel_rfl)
theorem t62:TQ5 62 (.pointer 127) false 1 [.pointer none]:=kTQ5 (by kernel_rfl)
theorem t63:TQ5 63 (.pointer 144) false 1 [.pointer none]:=kTQ5 (by kernel_rfl)
theorem t65:TQ3 65 true 4 [.pointer none,.pointer none,.pointer none,.pointer none] [(0,1),(1,1),(2,1),(3,1)]:=kTQ3 (by kernel_rfl)
theorem r65:TR0 65 0 1 2 3:=⟨fun _ _ _=>⟨rfl,rfl,rfl,rfl⟩,fun _ _ _ _=>⟨rfl,rfl,rfl,rfl⟩⟩
theorem e3:abEnv.fn 3=some Tryz.f3:=by kernel_rfl
theorem t12:TQ1 12 (.int .u64) false 1 [.int .u64 0]:=kTQ1 (by kernel_rfl)
theorem t13:TQ3 13 true 2 [.string ⟨#[]⟩,.int .u64 0] [(0,1),(1,1)]:=kTQ3 (by kernel_rfl)
theorem r13:TR4 13 0 1:=⟨fun _ _ _=>⟨rfl,rfl⟩,fun _ _=>⟨rfl,rfl⟩⟩
theorem t14:TQ3 14 true 2 [.string ⟨#[]⟩,.int .u64 0] [(0,1),(1,1)]:=kTQ3 (by kernel_rfl)
theorem r14:TR4 14 0 1:=⟨fun _ _ _=>⟨rfl,rfl⟩,fun _ _=>⟨rfl,rfl⟩⟩
theorem t15:TQ5 15 (.pointer 349) false 1 [.pointer none]:=kTQ5 (by kernel_rfl)
theorem t16:TQ5 16 (.pointer 352) false 1 [.pointer none]:=kTQ5 (by kernel_rfl)
theorem t17:TQ5 17 (.pointer 359) false 1 [.pointer none]:=kTQ5 (by kernel_rfl)
theorem t18:TQ3 18 true 1 [.pointer none] [(0,1)]:=kTQ3 (by kernel_rfl)
theorem r18:TR5 18 0:=⟨fun _ _ _=>rfl,fun _=>rfl⟩
theorem t19:TQ3 19 true 1 [.pointer none] [(0,1)]:=kTQ3 (by kernel_rfl)
theorem r19:TR5 19 0:=⟨fun _ _ _=>rfl,fun _=>rfl⟩
theorem t20:TQ6 20 false 1 [.nilIface]:=kTQ6 (by kernel_rfl)
theorem t21:TQ1 21 (.int .i32) false 1 [.int .i32 0]:=kTQ1 (by kernel_rfl)
theorem t24:TQ3 24 true 5 [.slice none 0 0,.slice none 0 0,.slice none 0 0,.int .u8 0,.slice none 0 0] [(0,1),(1,1),(2,1),(3,1),(4,1)]:=kTQ3 (by kernel_rfl)
theorem r24:TR1 24 0 1 2 3 4:=⟨fun _ _ _=>⟨rfl,rfl,rfl,rfl,rfl⟩,fun _ _ _ _ _=>⟨rfl,rfl,rfl,rfl,rfl⟩⟩
theorem t28:TQ0 28 false 1 [.nilFunc]:=kTQ0 (by kernel_rfl)
theorem t48:TQ2 48 (.array 4 5) true 4 [.int .u8 0,.int .u8 0,.int .u8 0,.int .u8 0]:=kTQ2 (by kernel_rfl)
theorem t78:TQ1 78 (.int .u32) false 1 [.int .u32 0]:=kTQ1 (by kernel_rfl)
theorem e78E:ec zB 78 4 1 [.int .u32 0]:=⟨⟨_,rfl,by kernel_rfl,by kernel_rfl⟩,t78.2.2.2.1,rfl⟩
theorem t134:TQ5 134 (.pointer 5) false 1 [.pointer none]:=kTQ5 (by kernel_rfl)
theorem t256:TQ1 256 (.int .u8) false 1 [.int .u8 0]:=kTQ1 (by kernel_rfl)
theorem t349:TQ3 349 true 4 [.pointer none,.pointer none,.pointer none,.string ⟨#[]⟩] [(0,1),(1,1),(2,1),(3,1)]:=kTQ3 (by kernel_rfl)
theorem r349:TR0 349 0 1 2 3:=⟨fun _ _ _=>⟨rfl,rfl,rfl,rfl⟩,fun _ _ _ _=>⟨rfl,rfl,rfl,rfl⟩⟩
theorem t350:TQ2 350 (.array 0 16) true 0 []:=kTQ2 (by kernel_rfl)
theorem t352:TQ7 352 true 0 []:=kTQ7 (by kernel_rfl)
theorem t354:TQ1 354 (.int .u8) false 1 [.int .u8 0]:=kTQ1 (by kernel_rfl)
theorem t355:TQ0 355 false 1 [.nilFunc]:=kTQ0 (by kernel_rfl)
theorem t356:TQ1 356 (.int .i32) false 1 [.int .i32 0]:=kTQ1 (by kernel_rfl)
theorem t357:TQ1 357 (.int .i32) false 1 [.int .i32 0]:=kTQ1 (by kernel_rfl)
theorem t359:TQ3 359 true 11 [.int .u64 0,.int .u64 0,.int .u32 0,.int .u8 0,.int .u8 0,.int .u8 0,.int .u8 0,.nilFunc,.pointer none,.int .i32 0,.int .i32 0] [(0,1),(1,1),(2,1),(3,1),(4,1),(5,1),(6,1),(7,1),(8,1),(9,1),(10,1)]:=kTQ3 (by kernel_rfl)
theorem r359:TR6 359 0 1 2 3 4 5 6 7 8 9 10:=⟨fun _ _ _=>⟨rfl,rfl,rfl,rfl,rfl,rfl,rfl,rfl,rfl,rfl,rfl⟩,fun _ _ _ _ _ _ _ _ _ _ _=>⟨rfl,rfl,rfl,rfl,rfl,rfl,rfl,rfl,rfl,rfl,rfl⟩⟩
theorem e4:abEnv.fn 4=some Tryz.f4:=by kernel_rfl
theorem t31:TQ0 31 false 1 [.nilFunc]:=kTQ0 (by kernel_rfl)
theorem t32:TQ0 32 false 1 [.nilFunc]:=kTQ0 (by kernel_rfl)
theorem t34:TQ0 34 false 1 [.nilFunc]:=kTQ0 (by kernel_rfl)
theorem t36:TQ3 36 true 4 [.int .i64 0,.slice none 0 0,.slice none 0 0,.slice none 0 0] [(0,1),(1,1),(2,1),(3,1)]:=kTQ3 (by kernel_rfl)
theorem r36:TR0 36 0 1 2 3:=⟨fun _ _ _=>⟨rfl,rfl,rfl,rfl⟩,fun _ _ _ _=>⟨rfl,rfl,rfl,rfl⟩⟩
theorem t40:TQ3 40 true 3 [.slice none 0 0,.slice none 0 0,.slice none 0 0] [(0,1),(1,1),(2,1)]:=kTQ3 (by kernel_rfl)
theorem r40:TR2 40 0 1 2:=⟨fun _ _ _=>⟨rfl,rfl,rfl⟩,fun _ _ _=>⟨rfl,rfl,rfl⟩⟩
theorem t42:TQ3 42 true 9 [.int .i64 0,.slice none 0 0,.slice none 0 0,.slice none 0 0,.slice none 0 0,.slice none 0 0,.slice none 0 0,.slice none 0 0,.string ⟨#[]⟩] [(0,4),(4,3),(7,1),(8,1)]:=kTQ3 (by kernel_rfl)
theorem r42:TR3 42 0 4 7 8:=⟨fun _ _ _=>⟨rfl,rfl,rfl,rfl⟩,fun _ _ _ _ _ _ _ _ _=>⟨rfl,rfl,rfl,rfl⟩⟩
theorem t44:TQ0 44 false 1 [.nilFunc]:=kTQ0 (by kernel_rfl)
theorem t45:TQ0 45 false 1 [.nilFunc]:=kTQ0 (by kernel_rfl)
theorem t46:TQ0 46 false 1 [.nilFunc]:=kTQ0 (by kernel_rfl)
theorem t47:TQ0 47 false 1 [.nilFunc]:=kTQ0 (by kernel_rfl)
theorem t49:TQ3 49 true 2 [.int .i64 0,.string ⟨#[]⟩] [(0,1),(1,1)]:=kTQ3 (by kernel_rfl)
theorem r49:TR4 49 0 1:=⟨fun _ _ _=>⟨rfl,rfl⟩,fun _ _=>⟨rfl,rfl⟩⟩
theorem t52:TQ5 52 (.pointer 54) false 1 [.pointer none]:=kTQ5 (by kernel_rfl)
theorem t54:TQ3 54 true 2 [.slice none 0 0,.int .i64 0] [(0,1),(1,1)]:=kTQ3 (by kernel_rfl)
theorem r54:TR4 54 0 1:=⟨fun _ _ _=>⟨rfl,rfl⟩,fun _ _=>⟨rfl,rfl⟩⟩
theorem t58:TQ6 58 false 1 [.nilIface]:=kTQ6 (by kernel_rfl)
theorem t74:TQ1 74 (.int .u64) false 1 [.int .u64 0]:=kTQ1 (by kernel_rfl)
theorem e74E:ec zB 74 8 1 [.int .u64 0]:=⟨⟨_,rfl,by kernel_rfl,by kernel_rfl⟩,t74.2.2.2.1,rfl⟩
theorem t81:TQ3 81 true 3 [.int .i64 0,.int .i64 0,.int .i64 0] [(0,1),(1,1),(2,1)]:=kTQ3 (by kernel_rfl)
theorem r81:TR2 81 0 1 2:=⟨fun _ _ _=>⟨rfl,rfl,rfl⟩,fun _ _ _=>⟨rfl,rfl,rfl⟩⟩
theorem e81E:ec zB 81 24 3 [.int .i64 0,.int .i64 0,.int .i64 0]:=⟨⟨_,rfl,by kernel_rfl,by kernel_rfl⟩,t81.2.2.1,rfl⟩
theorem t117:TQ3 117 true 4 [.int .i64 0,.slice none 0 0,.slice none 0 0,.slice none 0 0] [(0,1),(1,1),(2,1),(3,1)]:=kTQ3 (by kernel_rfl)
theorem r117:TR0 117 0 1 2 3:=⟨fun _ _ _=>⟨rfl,rfl,rfl,rfl⟩,fun _ _ _ _=>⟨rfl,rfl,rfl,rfl⟩⟩
theorem t127:TQ3 127 true 2 [.slice none 0 0,.int .i64 0] [(0,1),(1,1)]:=kTQ3 (by kernel_rfl)
theorem r127:TR4 127 0 1:=⟨fun _ _ _=>⟨rfl,rfl⟩,fun _ _=>⟨rfl,rfl⟩⟩
theorem t140:TQ4 140 (.slice 38) false 1 [.slice none 0 0]:=kTQ4 (by kernel_rfl)
theorem t142:TQ3 142 true 6 [.int .i64 0,.slice none 0 0,.slice none 0 0,.slice none 0 0,.slice none 0 0,.slice none 0 0] [(0,4),(4,1),(5,1)]:=kTQ3 (by kernel_rfl)
theorem r142:TR7 142 0 4 5:=⟨fun _ _ _=>⟨rfl,rfl,rfl⟩,fun _ _ _ _ _ _=>⟨rfl,rfl,rfl⟩⟩
theorem t144:TQ3 144 true 4 [.int .i64 0,.int .i64 0,.int .i64 0,.slice none 0 0] [(0,1),(1,1),(2,1),(3,1)]:=kTQ3 (by kernel_rfl)
theorem r144:TR0 144 0 1 2 3:=⟨fun _ _ _=>⟨rfl,rfl,rfl,rfl⟩,fun _ _ _ _=>⟨rfl,rfl,rfl,rfl⟩⟩
theorem e5:abEnv.fn 5=some Tryz.f5:=by kernel_rfl
theorem e6:abEnv.fn 6=some Tryz.f6:=by kernel_rfl
theorem e7:abEnv.fn 7=some Tryz.f7:=by kernel_rfl
theorem e8:abEnv.fn 8=some Tryz.f8:=by kernel_rfl
theorem e9:abEnv.fn 9=some Tryz.f9:=by kernel_rfl
theorem e10:abEnv.fn 10=some Tryz.f10:=by kernel_rfl
theorem t92:TQ5 92 (.pointer 171) false 1 [.pointer none]:=kTQ5 (by kernel_rfl)
theorem t171:TQ3 171 true 1 [.slice none 0 0] [(0,1)]:=kTQ3 (by kernel_rfl)
theorem r171:TR5 171 0:=⟨fun _ _ _=>rfl,fun _=>rfl⟩
theorem t173:TQ4 173 (.slice 74) false 1 [.slice none 0 0]:=kTQ4 (by kernel_rfl)
theorem t175:TQ4 175 (.slice 78) false 1 [.slice none 0 0]:=kTQ4 (by kernel_rfl)
theorem e12:abEnv.fn 12=some Tryz.f12:=by kernel_rfl
theorem e13:abEnv.fn 13=some Tryz.f13:=by kernel_rfl
theorem t102:TQ3 102 true 4 [.int .i64 0,.int .i64 0,.int .i64 0,.int .i64 0] [(0,1),(1,1),(2,1),(3,1)]:=kTQ3 (by kernel_rfl)
theorem r102:TR0 102 0 1 2 3:=⟨fun _ _ _=>⟨rfl,rfl,rfl,rfl⟩,fun _ _ _ _=>⟨rfl,rfl,rfl,rfl⟩⟩
theorem t104:TQ5 104 (.pointer 102) false 1 [.pointer none]:=kTQ5 (by kernel_rfl)
theorem t106:TQ3 106 true 1 [.pointer none] [(0,1)]:=kTQ3 (by kernel_rfl)
theorem r106:TR5 106 0:=⟨fun _ _ _=>rfl,fun _=>rfl⟩
theorem e14:abEnv.fn 14=some Tryz.f14:=by kernel_rfl
theorem t113:TQ0 113 false 1 [.nilFunc]:=kTQ0 (by kernel_rfl)
theorem t115:TQ0 115 false 1 [.nilFunc]:=kTQ0 (by kernel_rfl)
theorem e15:abEnv.fn 15=some Tryz.f15:=by kernel_rfl
theorem e16:abEnv.fn 16=some Tryz.f16:=by kernel_rfl
theorem t121:TQ0 121 false 1 [.nilFunc]:=kTQ0 (by kernel_rfl)
theorem t123:TQ0 123 false 1 [.nilFunc]:=kTQ0 (by kernel_rfl)
theorem e17:abEnv.fn 17=some Tryz.f17:=by kernel_rfl
theorem e18:abEnv.fn 18=some Tryz.f18:=by kernel_rfl
theorem e19:abEnv.fn 19=some Tryz.f19:=by kernel_rfl
theorem t131:TQ0 131 false 1 [.nilFunc]:=kTQ0 (by kernel_rfl)
theorem e20:abEnv.fn 20=some Tryz.f20:=by kernel_rfl
theorem t135:TQ0 135 false 1 [.nilFunc]:=kTQ0 (by kernel_rfl)
theorem e21:abEnv.fn 21=some Tryz.f21:=by kernel_rfl
theorem e22:abEnv.fn 22=some Tryz.f22:=by kernel_rfl
theorem e24:abEnv.fn 24=some Tryz.f24:=by kernel_rfl
theorem e25:abEnv.fn 25=some Tryz.f25:=by kernel_rfl
theorem e26:abEnv.fn 26=some Tryz.f26:=by kernel_rfl
theorem e27:abEnv.fn 27=some Tryz.f27:=by kernel_rfl
theorem e28:abEnv.fn 28=some Tryz.f28:=by kernel_rfl
theorem e29:abEnv.fn 29=some Tryz.f29:=by kernel_rfl
theorem t150:TQ0 150 false 1 [.nilFunc]:=kTQ0 (by kernel_rfl)
theorem e30:abEnv.fn 30=some Tryz.f30:=by kernel_rfl
theorem e31:abEnv.fn 31=some Tryz.f31:=by kernel_rfl
theorem e32:abEnv.fn 32=some Tryz.f32:=by kernel_rfl
theorem t165:TQ5 165 (.pointer 169) false 1 [.pointer none]:=kTQ5 (by kernel_rfl)
theorem t166:TQ5 166 (.pointer 228) false 1 [.pointer none]:=kTQ5 (by kernel_rfl)
theorem t169:TQ3 169 true 2 [.pointer none,.string ⟨#[]⟩] [(0,1),(1,1)]:=kTQ3 (by kernel_rfl)
theorem r169:TR4 169 0 1:=⟨fun _ _ _=>⟨rfl,rfl⟩,fun _ _=>⟨rfl,rfl⟩⟩
theorem t228:TQ3 228 true 3 [.string ⟨#[]⟩,.int .i64 0,.pointer none] [(0,1),(1,1),(2,1)]:=kTQ3 (by kernel_rfl)
theorem r228:TR2 228 0 1 2:=⟨fun _ _ _=>⟨rfl,rfl,rfl⟩,fun _ _ _=>⟨rfl,rfl,rfl⟩⟩
theorem e34:abEnv.fn 34=some Tryz.f34:=by kernel_rfl
theorem e35:abEnv.fn 35=some Tryz.f35:=by kernel_rfl
theorem e36:abEnv.fn 36=some Tryz.f36:=by kernel_rfl
theorem e37:abEnv.fn 37=some Tryz.f37:=by kernel_rfl
theorem e38:abEnv.fn 38=some Tryz.f38:=by kernel_rfl
theorem e39:abEnv.fn 39=some Tryz.f39:=by kernel_rfl
theorem e40:abEnv.fn 40=some Tryz.f40:=by kernel_rfl
theorem e41:abEnv.fn 41=some Tryz.f41:=by kernel_rfl
theorem e42:abEnv.fn 42=some Tryz.f42:=by kernel_rfl
theorem e43:abEnv.fn 43=some Tryz.f43:=by kernel_rfl
theorem e44:abEnv.fn 44=some Tryz.f44:=by kernel_rfl
theorem t183:TQ0 183 false 1 [.nilFunc]:=kTQ0 (by kernel_rfl)
theorem t184:TQ0 184 false 1 [.nilFunc]:=kTQ0 (by kernel_rfl)
theorem e46:abEnv.fn 46=some Tryz.f46:=by kernel_rfl
theorem e47:abEnv.fn 47=some Tryz.f47:=by kernel_rfl
theorem t187:TQ2 187 (.map 3 3) false 1 [.map none]:=kTQ2 (by kernel_rfl)
theorem t188:TQ0 188 false 1 [.nilFunc]:=kTQ0 (by kernel_rfl)
theorem e48:abEnv.fn 48=some Tryz.f48:=by kernel_rfl
theorem e49:abEnv.fn 49=some Tryz.f49:=by kernel_rfl
theorem e50:abEnv.fn 50=some Tryz.f50:=by kernel_rfl
theorem e51:abEnv.fn 51=some Tryz.f51:=by kernel_rfl
theorem t112:TQ0 112 false 1 [.nilFunc]:=kTQ0 (by kernel_rfl)
theorem e52:abEnv.fn 52=some Tryz.f52:=by kernel_rfl
theorem t192:TQ3 192 true 3 [.slice none 0 0,.slice none 0 0,.slice none 0 0] [(0,1),(1,1),(2,1)]:=kTQ3 (by kernel_rfl)
theorem r192:TR2 192 0 1 2:=⟨fun _ _ _=>⟨rfl,rfl,rfl⟩,fun _ _ _=>⟨rfl,rfl,rfl⟩⟩
theorem t194:TQ0 194 false 1 [.nilFunc]:=kTQ0 (by kernel_rfl)
theorem e53:abEnv.fn 53=some Tryz.f53:=by kernel_rfl
theorem e54:abEnv.fn 54=some Tryz.f54:=by kernel_rfl
theorem e55:abEnv.fn 55=some Tryz.f55:=by kernel_rfl
theorem t120:TQ0 120 false 1 [.nilFunc]:=kTQ0 (by kernel_rfl)
theorem e56:abEnv.fn 56=some Tryz.f56:=by kernel_rfl
theorem e57:abEnv.fn 57=some Tryz.f57:=by kernel_rfl
theorem e58:abEnv.fn 58=some Tryz.f58:=by kernel_rfl
theorem e59:abEnv.fn 59=some Tryz.f59:=by kernel_rfl
theorem e60:abEnv.fn 60=some Tryz.f60:=by kernel_rfl
theorem e61:abEnv.fn 61=some Tryz.f61:=by kernel_rfl
theorem t98:TQ0 98 false 1 [.nilFunc]:=kTQ0 (by kernel_rfl)
theorem e62:abEnv.fn 62=some Tryz.f62:=by kernel_rfl
theorem e63:abEnv.fn 63=some Tryz.f63:=by kernel_rfl
theorem e64:abEnv.fn 64=some Tryz.f64:=by kernel_rfl
theorem e65:abEnv.fn 65=some Tryz.f65:=by kernel_rfl
theorem e66:abEnv.fn 66=some Tryz.f66:=by kernel_rfl
theorem e67:abEnv.fn 67=some Tryz.f67:=by kernel_rfl
theorem t130:TQ0 130 false 1 [.nilFunc]:=kTQ0 (by kernel_rfl)
theorem e68:abEnv.fn 68=some Tryz.f68:=by kernel_rfl
theorem e69:abEnv.fn 69=some Tryz.f69:=by kernel_rfl
theorem e70:abEnv.fn 70=some Tryz.f70:=by kernel_rfl
theorem e71:abEnv.fn 71=some Tryz.f71:=by kernel_rfl
theorem t202:TQ4 202 (.slice 4) false 1 [.slice none 0 0]:=kTQ4 (by kernel_rfl)
theorem e202E:ec zB 202 24 1 [.slice none 0 0]:=⟨⟨_,rfl,by kernel_rfl,by kernel_rfl⟩,t202.2.2.2.1,rfl⟩
theorem e72:abEnv.fn 72=some Tryz.f72:=by kernel_rfl
theorem e77:abEnv.fn 77=some Tryz.f77:=by kernel_rfl
theorem t146:TQ3 146 true 1 [.int .i64 0] [(0,1)]:=kTQ3 (by kernel_rfl)
theorem r146:TR5 146 0:=⟨fun _ _ _=>rfl,fun _=>rfl⟩
theorem e78:abEnv.fn 78=some Tryz.f78:=by kernel_rfl
theorem t149:TQ0 149 false 1 [.nilFunc]:=kTQ0 (by kernel_rfl)
theorem e79:abEnv.fn 79=some Tryz.f79:=by kernel_rfl
theorem e80:abEnv.fn 80=some Tryz.f80:=by kernel_rfl
theorem e81:abEnv.fn 81=some Tryz.f81:=by kernel_rfl
theorem e82:abEnv.fn 82=some Tryz.f82:=by kernel_rfl
theorem t110:TQ0 110 false 1 [.nilFunc]:=kTQ0 (by kernel_rfl)
theorem t209:TQ0 209 false 1 [.nilFunc]:=kTQ0 (by kernel_rfl)
theorem e83:abEnv.fn 83=some Tryz.f83:=by kernel_rfl
theorem t99:TQ0 99 false 1 [.nilFunc]:=kTQ0 (by kernel_rfl)
theorem t212:TQ2 212 (.array 2 39) true 2 [.slice none 0 0,.slice none 0 0]:=kTQ2 (by kernel_rfl)
theorem e84:abEnv.fn 84=some Tryz.f84:=by kernel_rfl
theorem e85:abEnv.fn 85=some Tryz.f85:=by kernel_rfl
theorem t216:TQ5 216 (.pointer 218) false 1 [.pointer none]:=kTQ5 (by kernel_rfl)
theorem t218:TQ3 218 true 6 [.string ⟨#[]⟩,.int .i64 0,.int .i64 0,.int .i64 0,.int .i64 0,.int .i64 0] [(0,1),(1,1),(2,4)]:=kTQ3 (by kernel_rfl)
theorem r218:TR8 218 0 1 2:=⟨fun _ _ _=>⟨rfl,rfl,rfl⟩,fun _ _ _ _ _ _=>⟨rfl,rfl,rfl⟩⟩
theorem e86:abEnv.fn 86=some Tryz.f86:=by kernel_rfl
theorem e87:abEnv.fn 87=some Tryz.f87:=by kernel_rfl
theorem e88:abEnv.fn 88=some Tryz.f88:=by kernel_rfl
theorem t223:TQ5 223 (.pointer 292) false 1 [.pointer none]:=kTQ5 (by kernel_rfl)
theorem t290:TQ4 290 (.slice 202) false 1 [.slice none 0 0]:=kTQ4 (by kernel_rfl)
theorem t292:TQ3 292 true 2 [.int .i64 0,.slice none 0 0] [(0,1),(1,1)]:=kTQ3 (by kernel_rfl)
theorem r292:TR4 292 0 1:=⟨fun _ _ _=>⟨rfl,rfl⟩,fun _ _=>⟨rfl,rfl⟩⟩
theorem e89:abEnv.fn 89=some Tryz.f89:=by kernel_rfl
theorem e90:abEnv.fn 90=some Tryz.f90:=by kernel_rfl
theorem e91:abEnv.fn 91=some Tryz.f91:=by kernel_rfl
theorem e92:abEnv.fn 92=some Tryz.f92:=by kernel_rfl
theorem e93:abEnv.fn 93=some Tryz.f93:=by kernel_rfl
theorem e94:abEnv.fn 94=some Tryz.f94:=by kernel_rfl
theorem t229:TQ4 229 (.slice 234) false 1 [.slice none 0 0]:=kTQ4 (by kernel_rfl)
theorem t231:TQ0 231 false 1 [.nilFunc]:=kTQ0 (by kernel_rfl)
theorem t234:TQ3 234 true 3 [.int .i64 0,.int .u64 0,.int .u32 0] [(0,1),(1,1),(2,1)]:=kTQ3 (by kernel_rfl)
theorem r234:TR2 234 0 1 2:=⟨fun _ _ _=>⟨rfl,rfl,rfl⟩,fun _ _ _=>⟨rfl,rfl,rfl⟩⟩
theorem e234E:ec zB 234 24 3 [.int .i64 0,.int .u64 0,.int .u32 0]:=⟨⟨_,rfl,by kernel_rfl,by kernel_rfl⟩,t234.2.2.1,rfl⟩
theorem e95:abEnv.fn 95=some Tryz.f95:=by kernel_rfl
theorem t237:TQ2 237 (.array 8 5) true 8 [.int .u8 0,.int .u8 0,.int .u8 0,.int .u8 0,.int .u8 0,.int .u8 0,.int .u8 0,.int .u8 0]:=kTQ2 (by kernel_rfl)
theorem t238:TQ1 238 (.int .u64) false 1 [.int .u64 0]:=kTQ1 (by kernel_rfl)
theorem e96:abEnv.fn 96=some Tryz.f96:=by kernel_rfl
theorem e97:abEnv.fn 97=some Tryz.f97:=by kernel_rfl
theorem e98:abEnv.fn 98=some Tryz.f98:=by kernel_rfl
theorem t79:TQ0 79 false 1 [.nilFunc]:=kTQ0 (by kernel_rfl)
theorem e99:abEnv.fn 99=some Tryz.f99:=by kernel_rfl
theorem t177:TQ3 177 true 1 [.pointer none] [(0,1)]:=kTQ3 (by kernel_rfl)
theorem r177:TR5 177 0:=⟨fun _ _ _=>rfl,fun _=>rfl⟩
theorem e100:abEnv.fn 100=some Tryz.f100:=by kernel_rfl
theorem t241:TQ0 241 false 1 [.nilFunc]:=kTQ0 (by kernel_rfl)
theorem t243:TQ0 243 false 1 [.nilFunc]:=kTQ0 (by kernel_rfl)
theorem e243E:ec zB 243 8 1 [.nilFunc]:=⟨⟨_,rfl,by kernel_rfl,by kernel_rfl⟩,t243.2.2.1,rfl⟩
theorem t245:TQ4 245 (.slice 243) false 1 [.slice none 0 0]:=kTQ4 (by kernel_rfl)
theorem t247:TQ3 247 true 6 [.int .i64 0,.int .i64 0,.int .i64 0,.int .i64 0,.int .i64 0,.int .i64 0] [(0,1),(1,1),(2,1),(3,1),(4,1),(5,1)]:=kTQ3 (by kernel_rfl)
theorem r247:TR9 247 0 1 2 3 4 5:=⟨fun _ _ _=>⟨rfl,rfl,rfl,rfl,rfl,rfl⟩,fun _ _ _ _ _ _=>⟨rfl,rfl,rfl,rfl,rfl,rfl⟩⟩
theorem e247E:ec zB 247 48 6 [.int .i64 0,.int .i64 0,.int .i64 0,.int .i64 0,.int .i64 0,.int .i64 0]:=⟨⟨_,rfl,by kernel_rfl,by kernel_rfl⟩,t247.2.2.1,rfl⟩
theorem e101:abEnv.fn 101=some Tryz.f101:=by kernel_rfl
theorem e103:abEnv.fn 103=some Tryz.f103:=by kernel_rfl
theorem e104:abEnv.fn 104=some Tryz.f104:=by kernel_rfl
theorem e105:abEnv.fn 105=some Tryz.f105:=by kernel_rfl
theorem e106:abEnv.fn 106=some Tryz.f106:=by kernel_rfl
theorem e107:abEnv.fn 107=some Tryz.f107:=by kernel_rfl
theorem e108:abEnv.fn 108=some Tryz.f108:=by kernel_rfl
theorem e109:abEnv.fn 109=some Tryz.f109:=by kernel_rfl
theorem e110:abEnv.fn 110=some Tryz.f110:=by kernel_rfl
theorem e111:abEnv.fn 111=some Tryz.f111:=by kernel_rfl
theorem t101:TQ3 101 true 4 [.int .i64 0,.int .i64 0,.int .i64 0,.int .i64 0] [(0,1),(1,1),(2,1),(3,1)]:=kTQ3 (by kernel_rfl)
theorem r101:TR0 101 0 1 2 3:=⟨fun _ _ _=>⟨rfl,rfl,rfl,rfl⟩,fun _ _ _ _=>⟨rfl,rfl,rfl,rfl⟩⟩
theorem t261:TQ5 261 (.pointer 267) false 1 [.pointer none]:=kTQ5 (by kernel_rfl)
theorem t262:TQ5 262 (.pointer 318) false 1 [.pointer none]:=kTQ5 (by kernel_rfl)
theorem t267:TQ3 267 true 5 [.pointer none,.slice none 0 0,.slice none 0 0,.slice none 0 0,.map none] [(0,1),(1,3),(4,1)]:=kTQ3 (by kernel_rfl)
theorem r267:TR10 267 0 1 4:=⟨fun _ _ _=>⟨rfl,rfl,rfl⟩,fun _ _ _ _ _=>⟨rfl,rfl,rfl⟩⟩
theorem t272:TQ0 272 false 1 [.nilFunc]:=kTQ0 (by kernel_rfl)
theorem t316:TQ3 316 true 2 [.slice none 0 0,.map none] [(0,1),(1,1)]:=kTQ3 (by kernel_rfl)
theorem r316:TR4 316 0 1:=⟨fun _ _ _=>⟨rfl,rfl⟩,fun _ _=>⟨rfl,rfl⟩⟩
theorem t318:TQ3 318 true 3 [.slice none 0 0,.map none,.int .i64 0] [(0,2),(2,1)]:=kTQ3 (by kernel_rfl)
theorem r318:TR11 318 0 2:=⟨fun _ _ _=>⟨rfl,rfl⟩,fun _ _ _=>⟨rfl,rfl⟩⟩
theorem e112:abEnv.fn 112=some Tryz.f112:=by kernel_rfl
theorem e113:abEnv.fn 113=some Tryz.f113:=by kernel_rfl
theorem e114:abEnv.fn 114=some Tryz.f114:=by kernel_rfl
theorem e115:abEnv.fn 115=some Tryz.f115:=by kernel_rfl
theorem e116:abEnv.fn 116=some Tryz.f116:=by kernel_rfl
theorem e117:abEnv.fn 117=some Tryz.f117:=by kernel_rfl
theorem e118:abEnv.fn 118=some Tryz.f118:=by kernel_rfl
theorem e119:abEnv.fn 119=some Tryz.f119:=by kernel_rfl
theorem e120:abEnv.fn 120=some Tryz.f120:=by kernel_rfl
theorem t199:TQ0 199 false 1 [.nilFunc]:=kTQ0 (by kernel_rfl)
theorem e121:abEnv.fn 121=some Tryz.f121:=by kernel_rfl
theorem e122:abEnv.fn 122=some Tryz.f122:=by kernel_rfl
theorem e123:abEnv.fn 123=some Tryz.f123:=by kernel_rfl
theorem e124:abEnv.fn 124=some Tryz.f124:=by kernel_rfl
theorem e125:abEnv.fn 125=some Tryz.f125:=by kernel_rfl
theorem e126:abEnv.fn 126=some Tryz.f126:=by kernel_rfl
theorem e127:abEnv.fn 127=some Tryz.f127:=by kernel_rfl
theorem e128:abEnv.fn 128=some Tryz.f128:=by kernel_rfl
theorem e129:abEnv.fn 129=some Tryz.f129:=by kernel_rfl
theorem e130:abEnv.fn 130=some Tryz.f130:=by kernel_rfl
theorem e132:abEnv.fn 132=some Tryz.f132:=by kernel_rfl
theorem e133:abEnv.fn 133=some Tryz.f133:=by kernel_rfl
theorem e134:abEnv.fn 134=some Tryz.f134:=by kernel_rfl
theorem e135:abEnv.fn 135=some Tryz.f135:=by kernel_rfl
theorem e136:abEnv.fn 136=some Tryz.f136:=by kernel_rfl
theorem e137:abEnv.fn 137=some Tryz.f137:=by kernel_rfl
theorem e138:abEnv.fn 138=some Tryz.f138:=by kernel_rfl
theorem e139:abEnv.fn 139=some Tryz.f139:=by kernel_rfl
theorem t286:TQ0 286 false 1 [.nilFunc]:=kTQ0 (by kernel_rfl)
theorem e140:abEnv.fn 140=some Tryz.f140:=by kernel_rfl
theorem e141:abEnv.fn 141=some Tryz.f141:=by kernel_rfl
theorem e142:abEnv.fn 142=some Tryz.f142:=by kernel_rfl
theorem e143:abEnv.fn 143=some Tryz.f143:=by kernel_rfl
theorem e144:abEnv.fn 144=some Tryz.f144:=by kernel_rfl
theorem e145:abEnv.fn 145=some Tryz.f145:=by kernel_rfl
theorem e146:abEnv.fn 146=some Tryz.f146:=by kernel_rfl
theorem e147:abEnv.fn 147=some Tryz.f147:=by kernel_rfl
theorem e148:abEnv.fn 148=some Tryz.f148:=by kernel_rfl
theorem e149:abEnv.fn 149=some Tryz.f149:=by kernel_rfl
theorem e150:abEnv.fn 150=some Tryz.f150:=by kernel_rfl
theorem t230:TQ0 230 false 1 [.nilFunc]:=kTQ0 (by kernel_rfl)
theorem e151:abEnv.fn 151=some Tryz.f151:=by kernel_rfl
theorem e152:abEnv.fn 152=some Tryz.f152:=by kernel_rfl
theorem e153:abEnv.fn 153=some Tryz.f153:=by kernel_rfl
theorem e154:abEnv.fn 154=some Tryz.f154:=by kernel_rfl
theorem e155:abEnv.fn 155=some Tryz.f155:=by kernel_rfl
theorem e156:abEnv.fn 156=some Tryz.f156:=by kernel_rfl
theorem e157:abEnv.fn 157=some Tryz.f157:=by kernel_rfl
theorem t296:TQ2 296 (.array 16 78) true 16 [.int .u32 0,.int .u32 0,.int .u32 0,.int .u32 0,.int .u32 0,.int .u32 0,.int .u32 0,.int .u32 0,.int .u32 0,.int .u32 0,.int .u32 0,.int .u32 0,.int .u32 0,.int .u32 0,.int .u32 0,.int .u32 0]:=kTQ2 (by kernel_rfl)
theorem e158:abEnv.fn 158=some Tryz.f158:=by kernel_rfl
theorem e159:abEnv.fn 159=some Tryz.f159:=by kernel_rfl
theorem t299:TQ4 299 (.slice 247) false 1 [.slice none 0 0]:=kTQ4 (by kernel_rfl)
theorem e160:abEnv.fn 160=some Tryz.f160:=by kernel_rfl
theorem e161:abEnv.fn 161=some Tryz.f161:=by kernel_rfl
theorem e162:abEnv.fn 162=some Tryz.f162:=by kernel_rfl
theorem e163:abEnv.fn 163=some Tryz.f163:=by kernel_rfl
theorem t240:TQ0 240 false 1 [.nilFunc]:=kTQ0 (by kernel_rfl)
theorem e164:abEnv.fn 164=some Tryz.f164:=by kernel_rfl
theorem e165:abEnv.fn 165=some Tryz.f165:=by kernel_rfl
theorem e166:abEnv.fn 166=some Tryz.f166:=by kernel_rfl
theorem e167:abEnv.fn 167=some Tryz.f167:=by kernel_rfl
theorem e172:abEnv.fn 172=some Tryz.f172:=by kernel_rfl
theorem t314:TQ4 314 (.slice 322) false 1 [.slice none 0 0]:=kTQ4 (by kernel_rfl)
theorem t322:TQ3 322 true 2 [.int .i64 0,.int .i64 0] [(0,1),(1,1)]:=kTQ3 (by kernel_rfl)
theorem r322:TR4 322 0 1:=⟨fun _ _ _=>⟨rfl,rfl⟩,fun _ _=>⟨rfl,rfl⟩⟩
theorem e322E:ec zB 322 16 2 [.int .i64 0,.int .i64 0]:=⟨⟨_,rfl,by kernel_rfl,by kernel_rfl⟩,t322.2.2.1,rfl⟩
theorem e173:abEnv.fn 173=some Tryz.f173:=by kernel_rfl
theorem e174:abEnv.fn 174=some Tryz.f174:=by kernel_rfl
theorem e175:abEnv.fn 175=some Tryz.f175:=by kernel_rfl
theorem e176:abEnv.fn 176=some Tryz.f176:=by kernel_rfl
theorem e177:abEnv.fn 177=some Tryz.f177:=by kernel_rfl
theorem t271:TQ0 271 false 1 [.nilFunc]:=kTQ0 (by kernel_rfl)
theorem e178:abEnv.fn 178=some Tryz.f178:=by kernel_rfl
theorem e179:abEnv.fn 179=some Tryz.f179:=by kernel_rfl
theorem e180:abEnv.fn 180=some Tryz.f180:=by kernel_rfl
theorem e181:abEnv.fn 181=some Tryz.f181:=by kernel_rfl
theorem e182:abEnv.fn 182=some Tryz.f182:=by kernel_rfl
theorem e183:abEnv.fn 183=some Tryz.f183:=by kernel_rfl
theorem e184:abEnv.fn 184=some Tryz.f184:=by kernel_rfl
theorem e185:abEnv.fn 185=some Tryz.f185:=by kernel_rfl
theorem e186:abEnv.fn 186=some Tryz.f186:=by kernel_rfl
theorem e187:abEnv.fn 187=some Tryz.f187:=by kernel_rfl
theorem e188:abEnv.fn 188=some Tryz.f188:=by kernel_rfl
theorem e190:abEnv.fn 190=some Tryz.f190:=by kernel_rfl
theorem e191:abEnv.fn 191=some Tryz.f191:=by kernel_rfl
theorem e192:abEnv.fn 192=some Tryz.f192:=by kernel_rfl
theorem e193:abEnv.fn 193=some Tryz.f193:=by kernel_rfl
theorem e194:abEnv.fn 194=some Tryz.f194:=by kernel_rfl
theorem e195:abEnv.fn 195=some Tryz.f195:=by kernel_rfl
theorem e196:abEnv.fn 196=some Tryz.f196:=by kernel_rfl
theorem e197:abEnv.fn 197=some Tryz.f197:=by kernel_rfl
theorem e198:abEnv.fn 198=some Tryz.f198:=by kernel_rfl
theorem e199:abEnv.fn 199=some Tryz.f199:=by kernel_rfl
theorem t293:TQ0 293 false 1 [.nilFunc]:=kTQ0 (by kernel_rfl)
theorem e200:abEnv.fn 200=some Tryz.f200:=by kernel_rfl
theorem e201:abEnv.fn 201=some Tryz.f201:=by kernel_rfl
theorem e202:abEnv.fn 202=some Tryz.f202:=by kernel_rfl
theorem e203:abEnv.fn 203=some Tryz.f203:=by kernel_rfl
theorem e204:abEnv.fn 204=some Tryz.f204:=by kernel_rfl
theorem e205:abEnv.fn 205=some Tryz.f205:=by kernel_rfl
theorem e206:abEnv.fn 206=some Tryz.f206:=by kernel_rfl
theorem t300:TQ0 300 false 1 [.nilFunc]:=kTQ0 (by kernel_rfl)
theorem e207:abEnv.fn 207=some Tryz.f207:=by kernel_rfl
theorem e208:abEnv.fn 208=some Tryz.f208:=by kernel_rfl
theorem e212:abEnv.fn 212=some Tryz.f212:=by kernel_rfl
theorem t339:TQ5 339 (.pointer 316) false 1 [.pointer none]:=kTQ5 (by kernel_rfl)
theorem e213:abEnv.fn 213=some Tryz.f213:=by kernel_rfl
theorem e214:abEnv.fn 214=some Tryz.f214:=by kernel_rfl
theorem e215:abEnv.fn 215=some Tryz.f215:=by kernel_rfl
theorem t288:TQ0 288 false 1 [.nilFunc]:=kTQ0 (by kernel_rfl)
theorem e216:abEnv.fn 216=some Tryz.f216:=by kernel_rfl
theorem t325:TQ0 325 false 1 [.nilFunc]:=kTQ0 (by kernel_rfl)
theorem e217:abEnv.fn 217=some Tryz.f217:=by kernel_rfl
theorem e218:abEnv.fn 218=some Tryz.f218:=by kernel_rfl
theorem e219:abEnv.fn 219=some Tryz.f219:=by kernel_rfl
theorem e220:abEnv.fn 220=some Tryz.f220:=by kernel_rfl
theorem e221:abEnv.fn 221=some Tryz.f221:=by kernel_rfl
theorem e222:abEnv.fn 222=some Tryz.f222:=by kernel_rfl
theorem e223:abEnv.fn 223=some Tryz.f223:=by kernel_rfl
theorem e224:abEnv.fn 224=some Tryz.f224:=by kernel_rfl
theorem e225:abEnv.fn 225=some Tryz.f225:=by kernel_rfl
theorem e226:abEnv.fn 226=some Tryz.f226:=by kernel_rfl
theorem e227:abEnv.fn 227=some Tryz.f227:=by kernel_rfl
theorem e228:abEnv.fn 228=some Tryz.f228:=by kernel_rfl
theorem e230:abEnv.fn 230=some Tryz.f230:=by kernel_rfl
theorem e231:abEnv.fn 231=some Tryz.f231:=by kernel_rfl
theorem e232:abEnv.fn 232=some Tryz.f232:=by kernel_rfl
theorem e233:abEnv.fn 233=some Tryz.f233:=by kernel_rfl
theorem e234:abEnv.fn 234=some Tryz.f234:=by kernel_rfl
theorem t346:TQ0 346 false 1 [.nilFunc]:=kTQ0 (by kernel_rfl)
theorem e235:abEnv.fn 235=some Tryz.f235:=by kernel_rfl
theorem e236:abEnv.fn 236=some Tryz.f236:=by kernel_rfl
theorem e237:abEnv.fn 237=some Tryz.f237:=by kernel_rfl
theorem e238:abEnv.fn 238=some Tryz.f238:=by kernel_rfl
theorem e239:abEnv.fn 239=some Tryz.f239:=by kernel_rfl
theorem e240:abEnv.fn 240=some Tryz.f240:=by kernel_rfl
theorem e241:abEnv.fn 241=some Tryz.f241:=by kernel_rfl
theorem e242:abEnv.fn 242=some Tryz.f242:=by kernel_rfl
theorem e243:abEnv.fn 243=some Tryz.f243:=by kernel_rfl
theorem e244:abEnv.fn 244=some Tryz.f244:=by kernel_rfl
theorem e245:abEnv.fn 245=some Tryz.f245:=by kernel_rfl
theorem e246:abEnv.fn 246=some Tryz.f246:=by kernel_rfl
end Tryz
set_option maxRecDepth 100000
def FA0:=aj t1<|aj t2<|aj t3<|aj t4<|aj t5<|aj t134<|aj t22<|aj t63<|aj t135<|aj t144<|aj r144<|aj t6<|aj t7<|aj r7<|aj t38<|aj t131<|aj t8<|aj r8<|aj t9<|aj t10<|aj t11<|aj t78<|aj t238<|aj t296<|aj t79<|aj t23<|aj t346<|aj t35<|aj t37<|aj r37<|aj t56<|aj t81<|aj r81<|aj t140<|aj t142<|aj r142<|aj t20<|aj t183<|aj t271<|aj t272<|aj t325<|aj t29<|aj t187<|aj t192<|aj r192<|aj t261<|aj t262<|aj t267<|aj r267<|aj t316<|aj r316<|aj t318<|aj r318<|aj t12<|aj t13<|aj r13<|aj t14<|aj r14<|aj t15<|aj t16<|aj t17<|aj t101<|aj r101<|aj t102<|aj r102<|aj t194<|aj t256<|aj t349<|aj r349<|aj t350<|aj t352<|aj t354<|aj t355<|aj t356<|aj t357<|aj t359<|aj r359<|aj t58<|aj t104<|aj t166<|aj t228<|aj r228<|aj t165<|aj t169<|aj r169<|aj t230<|aj t231<|aj t74<|aj t234<|aj r234<|aj t293<|aj t18<|aj r18<|aj t19<|aj r19<|aj t21<|aj t33<|aj t50<|aj r50<|aj t229<|aj t62<|aj t127<|aj r127<|aj t188<|aj t130<|aj t202<|aj t199<|aj t26<|aj t92<|aj t171<|aj r171<|aj t173<|aj t175<|aj t314<|aj t322<|aj r322<|aj t339<|aj t288<|aj t110<|aj t209<|aj t39<|aj t61<|aj t99<|aj t117<|aj r117<|aj t212<|aj t27<|aj t65<|aj r65<|aj t146<|aj r146<|aj t149<|aj t150<|aj t24<|aj r24<|aj t25<|aj r25<|aj t28<|aj t31<|aj t32<|aj t34<|aj t36<|aj r36<|aj t40<|aj r40<|aj t41<|aj r41<|aj t42<|aj r42<|aj t43<|aj r43<|aj t44<|aj t45<|aj t46<|aj t47<|aj t48<|aj t49<|aj r49<|aj t52<|aj t54<|aj r54<|aj t237<|aj t216<|aj t218<|aj r218<|aj t223<|aj t290<|aj t292<|aj r292<|aj t240<|aj t241<|aj t247<|aj r247<|aj t299<|aj t300<|aj t184<|aj t106<|aj r106<|aj t98<|aj t177<|aj r177<|aj t243<|aj t245<|aj t112<|aj t113<|aj t115<|aj t121<|aj t286<|aj t120<|t123
def BZ:=aj BS<|aj LB<|FA0
theorem erA{f:FuncId}{a:Func}{Q:Value->Hp->Prop}(hf:E.fn f=some a)(c:Run E (lim E) ⟨f,n,none⟩ (lJ E rs (RetQ Q)) [.code body] .normal (LL n (cC args) [] none) h)(d:E.orc f args=none:=by exact rfl)(e:a.body=some body:=by exact rfl)(g:a.ntmps=n:=by exact rfl)(b:a.results.toList=rs:=by exact rfl)(hle:args.length<=n:=by exact lbt rfl):Ret E f args h Q:=enter_ret d hf e g b hle c
theorem enA{f:FuncId}{a:Func}{rc:Option (Value×Bool)}{Q:Out->Option (Value×Bool)->Hp->Prop}(hf:E.fn f=some a)(c:Run E (lim E) ⟨f,n,none⟩ (lJ E rs Q) [.code body] .normal (LL n (cC args) [] rc) h)(d:E.orc f args=none:=by exact rfl)(e:a.body=some body:=by exact rfl)(g:a.ntmps=n:=by exact rfl)(b:a.results.toList=rs:=by exact rfl)(hle:args.length<=n:=by exact lbt rfl):dI E f args rc h Q:=enter d hf e g b hle c
theorem stA(S:St M c h L G){t:TypeId}{s:Option Nat}{l:List Value}(hs:E.sz t=some n)(hf:(ae v).all iT=true:=by exact rfl)(d:L[i]? =some (b,.row l md):=by exact rfl)(f:(ae v).length=n:=by exact rfl)(g: ∀x,v≠ .chan x:=by intro x e;cases e)(j:off+n<=l.length:=by exact lbt rfl)(a:md≠0:=by exact ono): ∃h',jF E h t (.pointer (some ⟨b,off,s⟩)) v=some h'/\St M c h' (L.set i (b,.row (lay l off (ae v)) md)) G/\Mo (· =b) h h':=S.store d hs g f hf j a
set_option maxRecDepth 10000
theorem values(d:OZ a)(e:Fl v):Ret zB 206 [v] a fun r h'=>Gr a h'/\ ∃b,r=.func (.func 228) #[] #[ptrTo b]/\a.n<=b/\h'.load b 0 1=some [v]:=by have S:=Si d;refine erA (n:=4) (rs:=[.tmp 2]) Tryz.e206 ?_;simp only [BZ,seval];refine ag (d9 (by assumption)) S ?_;clear S;intro h b S c;simp only [BZ,ab,seval];exact⟨S.gr,b,rfl,c,S.ld m0 rfl⟩
theorem xt{f:Hp}(d:OZ f){ps:List Pl}(u:f.load b 0 1=some [v])(hs:aH f 6 lH v ps)(q:ps.length<1000):Iter zB 228 [] [ptrTo b] f (fun c=>c=b\/az v c) (ps.map fun p=>[.agg ⟨lH p⟩]):=by
 refine wH fun x J Z Y h F s k=>?_;refine enA (n:=16) (rs:=[]) Tryz.e228 ?_;have l:=s.load d u (.inl rfl);have e:=s.sl d hs (fun b h=>.inr h);simp only [BZ,l,e.lenq,seval];refine aF (fun(i:Nat) g h=>i<=ps.length/\ ∃F,ItS f (fun c=>c=b\/az v c) h F/\J i h F/\g 0=.func (.yield x) #[] #[]/\g 5=v/\g 6=.int .i64 ps.length/\g 7=.int .i64 i) (fun i=>ps.length-i) ?_ 0 _ _ ?_
 . intro i y g h ⟨hi,F,s,k,r0,r5,r6,r7⟩;by_cases hlt:i<ps.length
   . have e:=s.sl d hs (fun b h=>.inr h);obtain⟨c,o,j,m⟩:=e.ix (kd:=.i64) encP_len hlt;have S:=Si s.ok;have w:am .i64 ((i:Int)+1)=((i+1:Nat):Int):=(by rw [wrap64]<;>omega);simp only [BZ,r5,r6,r7,aq,hlt,j,m,seval];refine ag ay S ?_;clear S;intro h z S r;simp only [BZ,lH,seval];refine au (stA S (i:=0) Tryz.t247.2.1) ?_;clear S;rintro h ⟨S,A⟩;clear A;simp only [LC,ae,lay,Xc,Xd,seval]at S;simp only [BZ,r0,S.lds (b:=z) (o:=0) (n:=6) m0 (lbt rfl),seval];refine ip Y (s.gr S.gr) (Y.gr _ _ _ _ k S.gr) (i:=i) (by simp [hlt,lH]) ?_ ?_ ?_
     . intro t B a C _ _;simp only [BZ,r7,w,seval];exact y (i+1) _ _ (by omega) ⟨by omega,B,C,a,by simp [ao,r0,r5,r6]⟩
     . intro t a _;simp only [BZ,seval];exact iD rfl ⟨rfl,.inr (.inl ⟨_,rfl,a⟩)⟩
     . intro v t a;simp only [BZ];exact cg (cq ⟨rfl,.inr (.inr ⟨_,rfl,a⟩)⟩)
   . simp only [BZ,r6,r7,aq,hlt,seval];have:i=ps.length:=(by omega);subst this;exact dK (cq ⟨rfl,_,rfl,rfl,.inl ⟨_,F,rfl,by simpa using k⟩⟩)
 . exact⟨by omega,F,s,k,by simp [ao,cC]⟩
def qa(e f:Nat)(ps:List Pl)(v:Value)(h':Hp):Prop:= ∃d a b,∃(D:Nat->Prop),v=.func (.func d) a b/\Iter zB d a.toList b.toList h' D (ps.map fun p=>[.agg ⟨lH p⟩])/\ ∀c,D c->c<e\/f<=c
theorem one_ok(k:OZ a){c n d f:Int}:Ret zB 160 [.int .i64 c,.int .i64 n,.int .i64 d,.int .i64 f] a fun v h'=>Gr a h'/\qa 0 a.n [⟨0,0,c,n,d,f⟩] v h':=by
 have S:=Si k;refine erA (n:=16) (rs:=[.tmp 8]) Tryz.e160 ?_;simp only [BZ,seval];refine ag (bE (by exact Tryz.t299.1) (by exact Tryz.e247E) (by decide) (by rfl)) S ?_;clear S;intro h b S i;simp only [LC,bz,bN,ae,Xk,Xj,Xb,Xp,seval]at S;simp only [BZ,seval];have q:=S.fr.n;refine step_ret (values S.ok bJ) ?_;intro v h ⟨g,b2,e,n2,l2⟩;replace S:=S.call g;subst e;simp only [BZ,ab,seval];have l:aH h 6 lH (.slice (some ⟨b,0,none⟩) 1 1) [⟨0,0,c,n,d,f⟩]:=.inr ⟨b,0,none,1,rfl,Xx _,S.lds (b:=b) (o:=0) (n:=1*6) m0 (lbt rfl)⟩;exact⟨S.gr,_,#[],#[ptrTo b2],_,rfl,xt S.ok l2 l (by simp),fun c j=>by rcases j with rfl|j;exact .inr (by omega);cases j;exact .inr i⟩
theorem shapes_ok(r:OZ d){a:Gra}(u:a.nodes<=300){k l m:Value}(p:cM d k l m a):Ret zB 162 [gy a k l m] d fun v h'=>Gr d h'/\qa 0 d.n [⟨0,0,6,a.X.length,a.nodes,(a.nodes+1:Nat)⟩,⟨0,1,6,a.Y.length,a.nodes,(a.nodes+1:Nat)⟩] v h':=by
 have S:=Si r;have w:am .i64 ((a.nodes:Int)+1)=((a.nodes+1:Nat):Int):=by rw [wrap64]<;>omega
 refine erA (n:=22) (rs:=[.tmp 2]) Tryz.e162 ?_;simp only [BZ,gy,seval];refine ag (bG (by intro x e;cases e)) S ?_;clear S;intro h b S s;simp only [ae]at S;simp only [BZ,p.X.lenq,p.Y.lenq,w,S.ld (b:=b) (o:=0) m0 rfl,S.ld (b:=b) (o:=1) m0 rfl,S.ld (b:=b) (o:=2) m0 rfl,seval];refine ag (bE (by exact Tryz.t299.1) (by exact Tryz.e247E) (by decide) (by rfl)) S ?_;clear S;intro h i S f;simp only [LC,bz,bN,ae,Xk,Xj,Xb,Xp,seval]at S;simp only [BZ,seval];have q:=S.fr.n;refine step_ret (values S.ok bJ) ?_;intro v h ⟨g,b2,e,n2',l2⟩;replace S:=S.call g;subst e;simp only [BZ,ab,seval];have t:aH h 6 lH (.slice (some ⟨i,0,none⟩) 2 2) [⟨0,0,6,a.X.length,a.nodes,(a.nodes+1:Nat)⟩,⟨0,1,6,a.Y.length,a.nodes,(a.nodes+1:Nat)⟩]:=.inr ⟨i,0,none,2,rfl,Xx _,S.lds (b:=i) (o:=0) (n:=2*6) m0 (lbt rfl)⟩;exact⟨S.gr,_,#[],#[ptrTo b2],_,rfl,xt S.ok l2 t (by simp),fun c j=>by rcases j with rfl|j;exact .inr (by omega);cases j;exact .inr f⟩
theorem nodes_ok(j:OZ a){d i:Value}:Ret zB 164 [.agg ⟨[i,d,f,g]⟩] a fun v h'=>Gr a h'/\ ∃b,v=.func (.func 207) #[] #[ptrTo b]/\a.n<=b/\Row h' b [i,d,f,g] 1:=by have S:=Si j;refine erA (n:=4) (rs:=[.tmp 2]) Tryz.e164 ?_;simp only [BZ,seval];refine ag (bG (by intro x e;cases e)) S ?_;clear S;intro h b S c;simp only [ae]at S;simp only [BZ,ab,seval];exact⟨S.gr,b,rfl,c,S.row m0⟩
theorem arcs_ok(j:OZ a){d i:Value}:Ret zB 167 [.agg ⟨[i,d,f,g]⟩] a fun v h'=>Gr a h'/\ ∃b,v=.func (.func 208) #[] #[ptrTo b]/\a.n<=b/\Row h' b [i,d,f,g] 1:=by have S:=Si j;refine erA (n:=4) (rs:=[.tmp 2]) Tryz.e167 ?_;simp only [BZ,seval];refine ag (bG (by intro x e;cases e)) S ?_;clear S;intro h b S c;simp only [ae]at S;simp only [BZ,ab,seval];exact⟨S.gr,b,rfl,c,S.row m0⟩
def plN(X Y:List Int):List Pl:=(Xa X.length).flatMap fun(i:Nat)=>[⟨i,0,7,X.getD i 0,-2147483648,2147483648⟩,⟨i,1,7,Y.getD i 0,-2147483648,2147483648⟩]
theorem plN_len(X Y:List Int):(plN X Y).length=2*X.length:=by unfold plN;rw [X7];simp [X8];omega
theorem plN_at(X Y:List Int)(c:i<X.length):(plN X Y)[2*i]? =some ⟨i,0,7,X.getD i 0,-2147483648,2147483648⟩/\(plN X Y)[2*i+1]? =some ⟨i,1,7,Y.getD i 0,-2147483648,2147483648⟩:=by
 unfold plN;have b: ∀(n j:Nat) (f:Nat->Pl) (k:Nat->Pl),j<n->((Xa n).flatMap fun i=>[f i,k i])[2*j]? =some (f j)/\((Xa n).flatMap fun i=>[f i,k i])[2*j+1]? =some (k j):=by
  intro n
  induction n with
  |zero=>intro j f k d;omega| succ n e=>
    intro j f k d;have a:((Xa n).flatMap fun i=>[f i,k i]).length=2*n:=(by rw [X7];simp [X8];omega);rw [Yp,Xs];by_cases h:j<n
    . rw [XC (by omega),XC (by omega)];exact e j f k h
    . have:j=n:=(by omega);subst this;rw [Xq (by omega),Xq (by omega),a];simp
 exact b _ _ _ _ c
theorem E0{f:Hp}(d:OZ f){m r L M:Value}{X Y:List Int}(u:Row f b [M,m,r,L] 1)(H:aH f 1 (encI .i64) m X)(N:aH f 1 (encI .i64) r Y)(hl:X.length=Y.length)(I:X.length<1000):Iter zB 207 [] [ptrTo b] f (fun c=>c=b\/az m c\/az r c) ((plN X Y).map fun p=>[.agg ⟨lH p⟩]):=by
 refine wH fun O J Z x h F s t=>?_;refine enA (n:=38) (rs:=[]) Tryz.e207 ?_;have y:=s.load d (u.load1 (o:=1) rfl) (.inl rfl);simp only [BZ,y,H.lenq,seval];refine aF (fun(i:Nat) j h=>i<=X.length/\ ∃F,ItS f (fun c=>c=b\/az m c\/az r c) h F/\J (2*i) h F/\j 0=.func (.yield O) #[] #[]/\j 1=ptrTo b/\j 8=.int .i64 X.length/\j 9=.int .i64 i) (fun i=>X.length-i) ?_ 0 _ _ ?_
 . intro i P j h ⟨hi,F,s,t,r0,r1,r8,r9⟩;by_cases hlt:i<X.length
   . have z:=s.sl d H (fun b h=>.inr (.inl h));have A:=s.sl d N (fun b h=>.inr (.inr h));have y:=s.load d (u.load1 (o:=1) rfl) (.inl rfl);have Q:=s.load d (u.load1 (o:=2) rfl) (.inl rfl);obtain⟨c,o,k,B⟩:=z.ix (kd:=.i64) (aE _) hlt;obtain⟨c2,o2,g,l⟩:=A.ix (kd:=.i64) (aE _) (i:=i) (by omega);have S:=Si s.ok;have w:am .i64 ((i:Int)+1)=((i+1:Nat):Int):=(by rw [wrap64]<;>omega);simp only [BZ,r8,r9,aq,hlt,seval];refine aw (aA rfl) (q:=1024) (ps:=[]) (by kernel_rfl) ?_;simp only [BZ,cls,r1,y,Q,k,g,B,l,encI,seval];refine ey (bE (by exact Tryz.t23.1) (by exact Tryz.e2E) (by decide) (by rfl)) S ?_;clear S;intro h e S C D;simp only [LC,bz,bN,ae,Xk,Xj,Xb,Xp,seval]at S;simp only [BZ,cls,Xe,seval];have T:am .i64 1=1:=rfl;have U:am .i64 2=2:=rfl;have K:=plN_at X Y hlt;rw [d6];simp only [BZ,Xe,r0,S.ld (b:=e) (o:=0) m0 rfl,S.ld (b:=e) (o:=1) m0 rfl,seval];refine ip x (s.gr S.gr) (x.gr _ _ _ _ t S.gr) (i:=2*i) (by rw [Xt,K.1];simp [lH,Xg,hlt]) ?_ ?_ ?_
     . intro V F2 a W E _;have nF:e∉F:=fun hm=>(by have:=s.lt _ hm;omega);have R:Row V e _ 1:=(S.row m0).of_get (E.get _ ((S.row m0).lt S.ok) nF);have R1:=R.load1 (o:=1) rfl;have aa:True:=trivial;simp only [BZ,T,seval];rw [d6];simp only [BZ,Xe,r0,R1,seval];refine ip x W a (i:=2*i+1) (by rw [Xt,K.2];simp [lH,Xg,show i<Y.length by omega]) ?_ ?_ ?_
       . intro h3 F3 a s3 _ _;simp only [BZ,U,seval];rw [d6];simp only [BZ,r9,w,seval];exact P (i+1) _ _ (by omega) ⟨by omega,F3,s3,a,by simp [ao,r0,r1,r8]⟩
       . intro G a _;simp only [BZ,seval];exact iD rfl ⟨rfl,.inr (.inl ⟨_,rfl,a⟩)⟩
       . intro v G a;simp only [BZ];exact cg (cq ⟨rfl,.inr (.inr ⟨_,rfl,a⟩)⟩)
     . intro G a _;simp only [BZ,seval];exact iD rfl ⟨rfl,.inr (.inl ⟨_,rfl,a⟩)⟩
     . intro v G a;simp only [BZ];exact cg (cq ⟨rfl,.inr (.inr ⟨_,rfl,a⟩)⟩)
   . simp only [BZ,r8,r9,aq,hlt,seval];have:i=X.length:=(by omega);subst this;exact dK (cq ⟨rfl,_,rfl,rfl,.inl ⟨_,F,rfl,by simpa [plN_len]using t⟩⟩)
 . exact⟨by omega,F,s,t,by simp [ao,cC,ah]⟩
def plA(n:Nat)(A:List Arc):List Pl:=(Xa A.length).flatMap fun(i:Nat)=>[⟨i,0,9,(A.getD i default).s,0,n⟩,⟨i,1,9,(A.getD i default).t,0,n⟩,⟨i,2,10,(A.getD i default).w,0,2147483648⟩]
theorem B7{b:Type}(f k l:Nat->b): ∀(n j:Nat),j<n->((Xa n).flatMap fun i=>[f i,k i,l i])[3*j]? =some (f j)/\((Xa n).flatMap fun i=>[f i,k i,l i])[3*j+1]? =some (k j)/\((Xa n).flatMap fun i=>[f i,k i,l i])[3*j+2]? =some (l j):=by
 intro n
 induction n with
 |zero=>intro j c;omega| succ n d=>
   intro j c;have a:((Xa n).flatMap fun i=>[f i,k i,l i]).length=3*n:=(by rw [X7];simp [X8];omega);rw [Yp,Xs];by_cases h:j<n
   . rw [XC (by omega),XC (by omega),XC (by omega)];exact d j h
   . have:j=n:=(by omega);subst this;rw [Xq (by omega),Xq (by omega),Xq (by omega),a];simp
theorem plA_len(n:Nat)(A:List Arc):(plA n A).length=3*A.length:=by unfold plA;rw [X7];simp [X8];omega
theorem arcs_iter{g:Hp}(d:OZ g){W m:Value}{A:List Arc}(H:Row g b [.int .i64 n,V,W,m] 1)(I:aH g 3 cQ m A)(K:A.length<1000):Iter zB 208 [] [ptrTo b] g (fun c=>c=b\/az m c) ((plA n A).map fun p=>[.agg ⟨lH p⟩]):=by
 refine wH fun X J Z j h F s t=>?_;refine enA (n:=44) (rs:=[]) Tryz.e208 ?_;have Y:=s.load d (H.load1 (o:=0) rfl) (.inl rfl);have l3:=s.load d (H.load1 (o:=3) rfl) (.inl rfl);simp only [BZ,Y,l3,I.lenq,seval];refine aF (fun(i:Nat) k h=>i<=A.length/\ ∃F,ItS g (fun c=>c=b\/az m c) h F/\J (3*i) h F/\k 0=.func (.yield X) #[] #[]/\k 3=.int .i64 n/\k 11=m/\k 12=.int .i64 A.length/\k 13=.int .i64 i) (fun i=>A.length-i) ?_ 0 _ _ ?_
 . intro i ih k h ⟨hi,F,s,t,r0,r3,r11,r12,r13⟩;by_cases hlt:i<A.length
   . have u:=s.sl d I (fun b h=>.inr h);obtain⟨c,o,q,x⟩:=u.ix (kd:=.i64) dQ hlt;have S:=Si s.ok;have w:am .i64 ((i:Int)+1)=((i+1:Nat):Int):=(by rw [wrap64]<;>omega);have w1:am .i64 1=1:=rfl;have w2:am .i64 2=2:=rfl;have w3:am .i64 3=3:=rfl;have y:=B7 (fun(i:Nat)=>(⟨i,0,9,(A.getD i default).s,0,n⟩:Pl)) (fun(i:Nat)=>⟨i,1,9,(A.getD i default).t,0,n⟩) (fun(i:Nat)=>⟨i,2,10,(A.getD i default).w,0,2147483648⟩) A.length i hlt;have z:A.getD i default=A[i]:=(by simp [Xg,hlt]);simp only [BZ,r11,r12,r13,aq,hlt,q,x,seval];refine ag ay S ?_;clear S;intro h B S L;simp only [BZ,cQ,seval];refine au (stA S (i:=0) Tryz.t81.2.1) ?_;clear S;rintro h ⟨S,e⟩;clear e;simp only [LC,ae,lay,Xc,Xd,seval]at S;simp only [BZ,r3,S.ld (b:=B) (o:=0) m0 rfl,S.ld (b:=B) (o:=1) m0 rfl,S.ld (b:=B) (o:=2) m0 rfl,seval];refine ag (bE (by exact Tryz.t299.1) (by exact Tryz.e247E) (by decide) (by rfl)) S ?_;clear S;intro h f S M;simp only [LC,bz,bN,ae,Xk,Xj,Xb,Xp,seval]at S;simp only [BZ,Xe,seval];have N:f∉F:=fun l=>(by have:=s.lt _ l;omega);have R:Row h f _ 1:=S.row m0;have aa:=R.lt S.ok;rw [d6];simp only [BZ,Xe,S.lds (b:=f) (o:=0) (n:=6) m0 (lbt rfl),seval];refine ag ay S ?_;clear S;intro h b7 S O;simp only [BZ,Xz,XB,XK,seval];refine au (stA S (i:=0) Tryz.t247.2.1) ?_;clear S;rintro h ⟨S,e⟩;clear e;simp only [LC,ae,lay,Xc,Xd,seval]at S;simp only [BZ,r0,S.lds (b:=b7) (o:=0) (n:=6) m0 (lbt rfl),seval];have R:Row h f _ 1:=S.row m1;refine ip j (s.gr S.gr) (j.gr _ _ _ _ t S.gr) (i:=3*i) (by rw [Xt,show(plA n A)[3*i]? =_ from y.1,z];simp [lH]) ?_ ?_ ?_
     . intro h2 F2 a P C D;have R0:=R;replace R:Row h2 f _ 1:=R.of_get (C.get _ (R.lt S.ok) N);have E:f∉F2:=fun l=>by
        rcases D _ l with l|l
        . exact N l
        . have:=R0.lt S.ok;omega
       have S:=Si P.ok;simp only [BZ,w1,seval];rw [d6];simp only [BZ,Xe,R.load (o:=6) (n:=6) (lbt rfl),seval];refine ag ay S ?_;clear S;intro h b8 S Q;simp only [BZ,YL,Xz,XB,XK,seval];refine au (stA S (i:=0) Tryz.t247.2.1) ?_;clear S;rintro h ⟨S,e⟩;clear e;simp only [LC,ae,lay,Xc,Xd,seval]at S;simp only [BZ,r0,S.lds (b:=b8) (o:=0) (n:=6) m0 (lbt rfl),seval];replace R:=R.gr S.gr;refine ip j (P.gr S.gr) (j.gr _ _ _ _ a S.gr) (i:=3*i+1) (by rw [Xt,show(plA n A)[3*i+1]? =_ from y.2.1,z];simp [lH]) ?_ ?_ ?_
       . intro h3 F3 a T G ac;replace R:Row h3 f _ 1:=R.of_get (G.get _ (R.lt S.ok) E);have S:=Si T.ok;simp only [BZ,w2,seval];rw [d6];simp only [BZ,Xe,R.load (o:=12) (n:=6) (lbt rfl),seval];refine ag ay S ?_;clear S;intro h b9 S U;simp only [BZ,YL,Xz,XB,XK,seval];refine au (stA S (i:=0) Tryz.t247.2.1) ?_;clear S;rintro h ⟨S,e⟩;clear e;simp only [LC,ae,lay,Xc,Xd,seval]at S;simp only [BZ,r0,S.lds (b:=b9) (o:=0) (n:=6) m0 (lbt rfl),seval];refine ip j (T.gr S.gr) (j.gr _ _ _ _ a S.gr) (i:=3*i+2) (by rw [Xt,show(plA n A)[3*i+2]? =_ from y.2.2,z];simp [lH]) ?_ ?_ ?_
         . intro h4 F4 a s4 ad af;simp only [BZ,w3,seval];rw [d6];simp only [BZ,r13,w,seval];exact ih (i+1) _ _ (by omega) ⟨by omega,F4,s4,a,by simp [ao,r0,r3,r11,r12]⟩
         . intro r a _;simp only [BZ,seval];exact iD rfl ⟨rfl,.inr (.inl ⟨_,rfl,a⟩)⟩
         . intro v r a;simp only [BZ];exact cg (cq ⟨rfl,.inr (.inr ⟨_,rfl,a⟩)⟩)
       . intro r a _;simp only [BZ,seval];exact iD rfl ⟨rfl,.inr (.inl ⟨_,rfl,a⟩)⟩
       . intro v r a;simp only [BZ];exact cg (cq ⟨rfl,.inr (.inr ⟨_,rfl,a⟩)⟩)
     . intro r a _;simp only [BZ,seval];exact iD rfl ⟨rfl,.inr (.inl ⟨_,rfl,a⟩)⟩
     . intro v r a;simp only [BZ];exact cg (cq ⟨rfl,.inr (.inr ⟨_,rfl,a⟩)⟩)
   . simp only [BZ,r12,r13,aq,hlt,seval];have:i=A.length:=(by omega);subst this;exact dK (cq ⟨rfl,_,rfl,rfl,.inl ⟨_,F,rfl,by simpa [plA_len]using t⟩⟩)
 . exact⟨by omega,F,s,t,by simp [ao,cC]⟩
def phs(a:Gra):Nat->List Pl
 |0=>[⟨0,0,5,a.nodes,1,16777217⟩]|1=>[⟨0,0,6,a.X.length,a.nodes,(a.nodes+1:Nat)⟩,⟨0,1,6,a.Y.length,a.nodes,(a.nodes+1:Nat)⟩]|2=>plN a.X a.Y|3=>[⟨0,0,8,a.arcs.length,0,67108865⟩]|_=>plA a.nodes a.arcs
def inP(p:Pl):Prop:=p.lo<=p.n/\p.n<p.hi
theorem phs_right{b:Gra}(r:pP b):(∀i,i<5-> ∀p∈phs b i,inP p)↔gD b:=by
 have n:=r.lX;have o:=r.lY;have q:=r.n2;have m2:=r.many;constructor
 . intro h;refine⟨?_,fun x f=>?_,fun x f=>?_,fun a m=>?_⟩
   . have:=h 0 (by decide) _ (List.mem_singleton.2 rfl);unfold inP at this;simp only []at this;omega
   . obtain⟨i,c,rfl⟩:=List.mem_iff_getElem.1 f;have:=h 2 (by decide) _ (zM (plN_at b.X b.Y c).1);unfold inP at this;simp only [Xg,Xn c,XG]at this;omega
   . obtain⟨i,c,rfl⟩:=List.mem_iff_getElem.1 f;have:=h 2 (by decide) _ (zM (plN_at b.X b.Y (i:=i) (by omega)).2);unfold inP at this;simp only [Xg,Xn c,XG]at this;omega
   . obtain⟨i,c,rfl⟩:=List.mem_iff_getElem.1 m;have d:=B7 (fun(i:Nat)=>(⟨i,0,9,(b.arcs.getD i default).s,0,b.nodes⟩:Pl)) (fun(i:Nat)=>⟨i,1,9,(b.arcs.getD i default).t,0,b.nodes⟩) (fun(i:Nat)=>⟨i,2,10,(b.arcs.getD i default).w,0,2147483648⟩) b.arcs.length i c;have j:=h 4 (by decide) _ (zM d.1);have k:=h 4 (by decide) _ (zM d.2.1);have l:=h 4 (by decide) _ (zM d.2.2);unfold inP at j k l;simp only [Xg,Xn c,XG]at j k l;omega
 . intro g i c p d;have s:=g.n1;unfold inP
   match i,c with
   |0,_=>cases List.mem_singleton.1 d;simp only [];omega
   | 1,_=>
     simp only [phs,XP,X2,or_false]at d;rcases d with rfl|rfl<;>(simp only [];omega)
   | 2,_=>
     simp only [phs,plN,List.mem_flatMap,YH,XP,X2,or_false]at d;obtain⟨i,c,rfl|rfl⟩:=d
     . have:=g.cX b.X[i] (XH c);simp only [Xg,Xn c,XG];omega
     . have e:i<b.Y.length:=(by omega);have:=g.cY b.Y[i] (XH e);simp only [Xg,Xn e,XG];omega
   |3,_=>cases List.mem_singleton.1 d;simp only [];omega
   | 4,_=>
     simp only [phs,plA,List.mem_flatMap,YH,XP,X2,or_false]at d;obtain⟨i,c,h⟩:=d;have:=g.arcs b.arcs[i] (XH c);simp only [Xg,Xn c,XG]at h;rcases h with rfl|rfl|rfl<;>(simp only [];omega)
theorem look1_ok(d:OZ a){c:Gra}{e i:Value}(j:Row a b [.int .i64 c.nodes,e,f,i] 1):Ret zB 159 [ptrTo b] a fun v h'=>Gr a h'/\qa 0 a.n (phs c 0) v h':=by have S:=Si d;refine erA (n:=5) (rs:=[.tmp 1]) Tryz.e159 ?_;simp only [BZ,j.load1 (o:=0) rfl,seval];refine step_ret (one_ok S.ok) ?_;intro v h ⟨g,t⟩;replace S:=S.call g;simp only [BZ,ab,seval];exact⟨S.gr,t⟩
theorem look2_ok(j:OZ a){c:Gra}(d:pP c){e i:Value}(k:cM a e f i c)(l:Row a b [.int .i64 c.nodes,e,f,i] 1):Ret zB 161 [ptrTo b] a fun v h'=>Gr a h'/\qa 0 a.n (phs c 1) v h':=by have S:=Si j;refine erA (n:=4) (rs:=[.tmp 1]) Tryz.e161 ?_;simp only [BZ,l.load (o:=0) (n:=4) (lbt rfl),seval];refine step_ret (shapes_ok S.ok d.n2 k) ?_;intro v h ⟨g,t⟩;replace S:=S.call g;simp only [BZ,ab,seval];exact⟨S.gr,t⟩
theorem look4_ok(i:OZ a){c:Gra}{d e:Value}(j:cM a d e f c)(k:Row a b [.int .i64 c.nodes,d,e,f] 1):Ret zB 165 [ptrTo b] a fun v h'=>Gr a h'/\qa 0 a.n (phs c 3) v h':=by have S:=Si i;refine erA (n:=6) (rs:=[.tmp 1]) Tryz.e165 ?_;simp only [BZ,k.load1 (o:=3) rfl,j.A.lenq,seval];refine step_ret (one_ok S.ok) ?_;intro v h ⟨g,t⟩;replace S:=S.call g;simp only [BZ,ab,seval];exact⟨S.gr,t⟩
theorem look3_ok(q:OZ a){i:Gra}(d:pP i){j k m:Value}(p:cM a j k m i){l:Nat}(r: ∀c,az j c->c<l)(s: ∀c,az k c->c<l)(t:Row a b [.int .i64 i.nodes,j,k,m] 1):Ret zB 163 [ptrTo b] a fun v h'=>Gr a h'/\qa l a.n (phs i 2) v h':=by
 have S:=Si q;have u:=d.n2;have w:=d.lX;have x:=d.lY;refine erA (n:=4) (rs:=[.tmp 1]) Tryz.e163 ?_;simp only [BZ,t.load (o:=0) (n:=4) (lbt rfl),seval];refine step_ret (nodes_ok S.ok) ?_;intro v h ⟨g,b2,e,q2,R⟩;replace S:=S.call g;subst e;simp only [BZ,ab,seval];refine⟨S.gr,_,#[],#[ptrTo b2],_,rfl,E0 S.ok R (p.X.gr S.gr) (p.Y.gr S.gr) (by omega) (by omega),fun c f=>?_⟩;rcases f with rfl|f|f
 . exact .inr q2
 . exact .inl (r c f)
 . exact .inl (s c f)
theorem look5_ok(p:OZ a){d:Gra}(f:pP d){k l i:Value}(q:cM a k l i d)(r: ∀c,az i c->c<m)(s:Row a b [.int .i64 d.nodes,k,l,i] 1):Ret zB 166 [ptrTo b] a fun v h'=>Gr a h'/\qa m a.n (phs d 4) v h':=by
 have S:=Si p;have t:=f.many;refine erA (n:=4) (rs:=[.tmp 1]) Tryz.e166 ?_;simp only [BZ,s.load (o:=0) (n:=4) (lbt rfl),seval];refine step_ret (arcs_ok S.ok) ?_;intro v h ⟨g,b2,e,q2,R⟩;replace S:=S.call g;subst e;simp only [BZ,ab,seval];refine⟨S.gr,_,#[],#[ptrTo b2],_,rfl,arcs_iter S.ok R (q.A.gr S.gr) (by omega),fun c j=>?_⟩;rcases j with rfl|j
 . exact .inr q2
 . exact .inl (r c j)
theorem look_any{J:Hp}(Q:OZ J){G:Gra}(t:pP G){va:Value}(R:cM J vx vy va G):dI zB 101 [gy G vx vy va] none J fun o rc h'=>rc=none/\Gr J h'/\((gD G/\ ∃u,o=.ret u)\/(¬gD G/\ ∃b,o=.pan (.iface 177 (.agg ⟨[ptrTo b]⟩)))):=by
 have S:=Si Q;have right:=phs_right t;generalize gD G=RG at*
 refine enA (n:=44) (rs:=[]) Tryz.e101 ?_;simp only [BZ,gy,seval];refine ag (bG (by intro x e;cases e)) S ?_;clear S;intro h b S an;simp only [ae]at S;simp only [BZ,seval];refine ag (bE (by exact Tryz.t245.1) (by exact Tryz.e243E) (by decide) (by rfl)) S ?_;clear S;intro h bs S ai;simp only [LC,bz,bN,ae,Xk,Xj,Xb,Xp,seval]at S;simp only [BZ,Xe,seval];have A: ∀i,i<5-> ∃g a c,[Value.func (.func 159) #[] #[.pointer (some ⟨b,0,none⟩)],.func (.func 161) #[] #[.pointer (some ⟨b,0,none⟩)],.func (.func 163) #[] #[.pointer (some ⟨b,0,none⟩)],.func (.func 165) #[] #[.pointer (some ⟨b,0,none⟩)],.func (.func 166) #[] #[.pointer (some ⟨b,0,none⟩)]][i]? =some (.func (.func g) a c)/\
  ∀h',Gr h h'->Ret zB g (a.toList++c.toList) h' fun v l=>Gr h' l/\qa J.n h'.n (phs G i) v l:=by
  intro i hi;have K:=S.row (b:=b) m1;have E:=R.gr S.gr;have wk: ∀ps h' v l,Gr h' l/\qa 0 h'.n ps v l->Gr h' l/\qa J.n h'.n ps v l:=by rintro ps h' v l ⟨a,gi,a1,a2,D,b1,B,m⟩;exact⟨a,gi,a1,a2,D,b1,B,fun c M=>(m c M).elim (fun h=>by omega) .inr⟩
  match i,hi with
  |0,_=>exact⟨_,_,_,rfl,fun h' g=>iJ (look1_ok g.ok (K.gr g)) (wk _ h')⟩
  |1,_=>exact⟨_,_,_,rfl,fun h' g=>iJ (look2_ok g.ok t (E.gr g) (K.gr g)) (wk _ h')⟩
  |2,_=>exact⟨_,_,_,rfl,fun h' g=>look3_ok g.ok t (E.gr g) (fun c M=>R.X.lt Q M) (fun c M=>R.Y.lt Q M) (K.gr g)⟩
  |3,_=>exact⟨_,_,_,rfl,fun h' g=>iJ (look4_ok g.ok (E.gr g) (K.gr g)) (wk _ h')⟩
  |4,_=>exact⟨_,_,_,rfl,fun h' g=>look5_ok g.ok t (E.gr g) (fun c M=>R.A.lt Q M) (K.gr g)⟩
 have Z:=S.row (b:=bs) m0;have g0:=S.gr;have T:=S.ok;clear S R Q t;revert A Z;generalize [Value.func (.func 159) #[] #[.pointer (some ⟨b,0,none⟩)],.func (.func 161) #[] #[.pointer (some ⟨b,0,none⟩)],.func (.func 163) #[] #[.pointer (some ⟨b,0,none⟩)],.func (.func 165) #[] #[.pointer (some ⟨b,0,none⟩)],.func (.func 166) #[] #[.pointer (some ⟨b,0,none⟩)]]=fs;revert right;generalize phs G=ph;intro right A Z;rename Hp=>O;have aL:=Z.lt T;have a0:=g0.n;have S:=Si T;refine sH (fun(i:Nat) ρ d h'=>i<=5/\(∀k,k<i-> ∀p∈ph k,inP p)/\ ∃f:List Nat,d=f.map sG/\St NoM O h' (dV f) []/\ρ 10=.slice (some ⟨bs,0,none⟩) 5 5/\ρ 11=.int .i64 5/\ρ 12=.int .i64 i) (fun i=>5-i) ?_ 0 _ _ _ ?_
 . clear S;intro i ih ρ d h ⟨hi,hin,f,U,S,r10,r11,r12⟩;have w:am .i64 ((i:Int)+1)=((i+1:Nat):Int):=(by rw [wrap64]<;>omega);by_cases hlt:i<5
   . obtain ⟨g,a,c,aa,K⟩:=A i hlt;have Rl:=(Z.gr S.gr).load1 aa;have z:(i:Int)<5:=(by omega);simp only [BZ,r10,r11,r12,z,hlt,Rl,seval];refine ag ay S ?_;clear S;intro h B S ak;simp only [BZ,seval];refine au (av S (i:=0) rfl ?_ ?_ ?_ ono) ?_
     . exact(by simp only [FA0])
     . exact(by exact cD)
     . exact zO (lbt rfl)
     clear S;rintro h ⟨S,mo⟩;clear mo;simp only [LC,ae,lay,Xc,Xd,seval]at S;simp only [BZ,seval];have kl: ∀b∈keys ((B,.row [.int .i64 (i:Nat)] 1)::dV f) [],b<h.n:=fun b C=>S.key_lt C;refine step_ret (K _ S.gr) ?_;intro v h ⟨g,gi,a2,post,D,e,it,hD⟩;replace S:=S.call g;subst e;simp only [BZ];refine kB S (g:=gi) (a:=a2) (b:=post) (by simp [bS,ao]) rfl rfl ?_;intro h2 N P H a3 a4 g2;obtain⟨X,hX,H⟩: ∃X:iu,X=_/\St NoM O h2 ((P,.loop X)::(N,.dfr)::(B,.row [.int .i64 (i:Nat)] 1)::dV f) []:=⟨_,rfl,H⟩;have hJ:Yld zB P (fun j h' F=>St NoM O h' ((P,.loop X)::(N,.dfr)::(B,.row [.int .i64 (i:Nat)] 1)::dV f) []/\F=keys ((P,.loop X)::(N,.dfr)::(B,.row [.int .i64 (i:Nat)] 1)::dV f) []/\ ∀p∈(ph i).take j,inP p) (fun o h'=> ∃b X',o=.pan (.iface 177 (.agg ⟨[ptrTo b]⟩))/\St NoM O h' ((P,.loop X')::(N,.dfr)::(B,.row [.int .i64 (i:Nat)] 1)::dV f) []/\ ¬RG) ((ph i).map fun p=>[.agg ⟨lH p⟩]):=by
      refine⟨?_,?_,?_,?_⟩
      . rintro j h F ⟨S,rfl,_⟩;exact⟨S.ok,fun b C=>S.key_lt C⟩
      . rintro j h F h' ⟨S,rfl,q⟩ g;exact⟨S.call g,rfl,q⟩
      . rintro h h' ⟨_,_,e,_⟩;cases e
      . rintro j x h F hx ⟨S,rfl,hj⟩;obtain⟨p,V,rfl⟩: ∃p,(ph i)[j]? =some p/\x=[.agg ⟨lH p⟩]:=(by rw [Xt,Option.map_eq_some_iff]at hx;obtain⟨p,O,h2⟩:=hx;exact⟨p,O,h2.symm⟩);subst hX;refine kw (S.get m0) (by rw [Tryz.e101];rfl) rfl ?_;have S0:=S;replace S:=S.base;simp only [BZ];refine ag ay S ?_;clear S;intro h m S al;simp only [BZ,lH,seval];refine au (stA S (i:=0) Tryz.t247.2.1) ?_;clear S;rintro h ⟨S,mo⟩;clear mo;simp only [LC,ae,lay,Xc,Xd,seval]at S;simp only [BZ];refine jC S (i:=1) rfl rfl rfl rfl rfl ?_;clear S;intro h S;by_cases s:inP p
        . obtain⟨p1,p2⟩:=id s;have ac: ¬p.n<p.lo:=(by omega);have ad: ¬p.hi<=p.n:=(by omega);simp only [BZ,ac,ad,S.ld (b:=m) (o:=3) m0 rfl,S.ld (b:=m) (o:=4) m0 rfl,S.ld (b:=m) (o:=5) m0 rfl,seval];refine gR S (i:=1) rfl ?_;clear S;intro h S;refine .inl ⟨rfl,_,⟨S0.rebase S.drop1,rfl,fun q A=>?_⟩,S.fr,S.drop1.key_new⟩;rw [List.take_add_one,V]at A;rcases List.mem_append.1 A with A|A
          . exact hj q A
          . cases List.mem_singleton.1 A;exact s
        . have nr: ¬RG:=fun r=>s (right.2 r i hlt p (zM V));by_cases W:p.n<p.lo
          . simp only [BZ,W,S.ld (b:=m) (o:=0) m0 rfl,S.ld (b:=m) (o:=1) m0 rfl,S.ld (b:=m) (o:=2) m0 rfl,S.ld (b:=m) (o:=3) m0 rfl,S.ld (b:=m) (o:=4) m0 rfl,S.ld (b:=m) (o:=5) m0 rfl,S.ld (b:=B) (o:=0) m3 rfl,seval];refine ag (bG (by intro x e;cases e)) S ?_;clear S;intro h b5 S Y;simp only [ae]at S;simp only [BZ,seval];exact A7 (.inr (.inr ⟨⟨_,rfl⟩,b5,_,rfl,S0.rebase (S.drop1.drop1),nr⟩))
          . have af:p.hi<=p.n:=(by unfold inP at s;omega);simp only [BZ,W,af,S.ld (b:=m) (o:=0) m0 rfl,S.ld (b:=m) (o:=1) m0 rfl,S.ld (b:=m) (o:=2) m0 rfl,S.ld (b:=m) (o:=3) m0 rfl,S.ld (b:=m) (o:=4) m0 rfl,S.ld (b:=m) (o:=5) m0 rfl,S.ld (b:=B) (o:=0) m3 rfl,seval];refine ag (bG (by intro x e;cases e)) S ?_;clear S;intro h b5 S Y;simp only [ae]at S;simp only [BZ,seval];exact A7 (.inr (.inr ⟨⟨_,rfl⟩,b5,_,rfl,S0.rebase (S.drop1.drop1),nr⟩))
     refine dZ (CH it hJ (h:=h2) (F:=keys ((P,.loop _)::(N,.dfr)::(B,.row [.int .i64 (i:Nat)] 1)::dV f) []) g2.fr (fun b C hlt=>?_) ⟨H,rfl,by simp⟩) fun o rc h' y=>?_
     . intro U;have hS:=H.key_own C;rcases hD b U with hh|hh
       . rcases hS with hS|hS
         . omega
         . exact hS
       . rcases List.mem_cons.1 C with rfl|C
         . omega
         . rcases List.mem_cons.1 C with rfl|C
           . omega
           . have:=kl b C;omega
     . obtain⟨rfl,⟨u,F,rfl,S,rfl,I⟩|⟨u,_,b',X',e,_⟩|⟨v,rfl,b',X',e,S,nr⟩⟩:=y
       . subst hX;refine⟨_,S.get m0,Nat.zero_ne_one,?_⟩;replace S:=(S.dead.permL (List.Perm.swap _ _ _)).drop1;show Run _ _ _ _ _ _ _ _;simp only [BZ,r12,w,seval];exact ih (i+1) _ _ _ (by omega) ⟨by omega,fun k hk p V=>by
          rcases Nat.lt_or_eq_of_le (Nat.le_of_lt_succ hk)with h|rfl
          . exact hin k h p V
          . rw [List.length_map,XI]at I;exact I p V,N::f,by rw [U];rfl,S,by simp [ao,r10,r11]⟩
       . cases e
       . cases e;show Run _ _ _ _ _ _ _ _;simp only [BZ];subst U;refine cg (g9 (N::f) _ (L:=[]) (by rw [Xw];exact(S.drop1.permL (List.Perm.swap _ _ _)).drop1) fun h' H=>?_);exact⟨rfl,g0.trans H.gr,.inr ⟨nr,b',rfl⟩⟩
   . have z: ¬(i:Int)<5:=(by omega);simp only [BZ,r11,r12,z,seval];subst U;have rr:RG:=right.1 fun k hk=>hin k (by omega);refine dK (g9 f h (L:=[]) (by rw [Xw];exact S) fun h' H=>⟨rfl,_,rfl,rfl,g0.trans H.gr,.inl ⟨rr,_,rfl⟩⟩)
 . exact⟨by omega,fun k hk=>absurd hk (Nat.not_lt_zero k),[],rfl,S,by simp [ao]⟩
theorem aH.form{d:Type}{enc:d->List Value}{xs:List d}(s:aH h k enc v xs): ∃a n c,v=.slice a n c:=by rcases s with⟨rfl,_⟩|⟨b,o,s,c,rfl,_⟩<;>exact⟨_,_,_,rfl⟩
section
variable{M:Nat->Prop}{h0 h:Hp}{E:Env}{L:List (Nat×Ob)}{G:List GL}
def WrK{a:Type}(h:Hp)(k:Nat)(enc:a->List Value)(w:Value)(l:List a):Prop:=l≠ []-> ∃b,w=.slice (some ⟨b,0,some k⟩) l.length l.length/\Row h b (l.flatMap enc) 1
theorem WrK.mo{a:Type}{enc:a->List Value}{l:List a}(r:WrK h k enc w l)(g:Mo M h h')(c: ∀b,az w b-> ¬M b):WrK h' k enc w l:=
 fun d=>by obtain⟨b,e,k⟩:=r d;exact⟨b,e,g.has (o:=.row _ 1) k (c b (by rw [e];rfl))⟩
theorem St.cloneW{l:Type}{enc:l->List Value}{ys:List l}(S:St M h0 h L G){t g e:TypeId}{a:Nat}{y:List Value}{x:Value}(m:E.und t=some (.slice e))(o:ec E e a k y)(p:0<a)(q:eK E g=some false)(hs:aH h k enc x ys)(d: ∀x,(enc x).length=k)(r:0<k)(f:(ys.length*k)*(a+1)<=70368744177664){ts:List TypeId}(s:Row h b [] md):
 ∃h' v',du E h (t::g::ts) (.slice (some ⟨b,0,none⟩) 0 0) x=some (h',v')/\St M h0 h' L G/\Gr h h'/\aH h' k enc v' ys/\(∀c,az v' c->c=b\/h.n<=c)/\WrK h' k enc v' ys:=by
 obtain⟨h',v',u,z,A,B,C⟩:=S.cloneSl (enc:=enc) (xs:=[]) m o p q hs d r (by simpa using f) (ts:=ts) (b:=b) (md:=md) (by simpa using s);refine⟨h',v',u,z,A,by simpa using B,C,fun i=>?_⟩;obtain⟨D,F,v,H⟩:=S.clone m o p q hs.src (aG d ys).symm (n:=0) (by simp) r (by rw [aG d];simpa using f) (ts:=ts) s;have j:du E h (t::g::ts) (.slice (some ⟨b,0,none⟩) 0 0) x=some (h',v'):=u;rw [j]at v;cases v;rcases H with⟨I,_⟩|⟨w,J,T⟩
 . exact absurd (List.length_eq_zero_iff.1 I) i
 . refine⟨w,by rw [J,Xj],?_⟩;have:=T.row (b:=w) m0;simpa using this
end
theorem check1_ok(c:OZ a):dI zB 100 [ptrTo b] none a fun o rc h'=>(∃v,o=.ret v)/\rc=none/\Gr a h':=by have S:=Si c;refine enA (n:=17) (rs:=[]) Tryz.e100 ?_;simp only [BZ,seval];exact dK (cq ⟨rfl,_,rfl,⟨_,rfl⟩,rfl,S.gr⟩)
theorem check1_no{c:Nat}(S:St M a hq L G)(e:L[i]? =some (b,.row [w] 1)):dI zB 100 [ptrTo b] (some (.iface 177 (.agg ⟨[ptrTo c]⟩),false)) hq fun o rc h'=>(∃v,o=.ret v)/\rc=some (.iface 177 (.agg ⟨[ptrTo c]⟩),true)/\St M a h' (L.set i (b,.row [.iface 177 (.agg ⟨[ptrTo c]⟩)] 1)) G:=by
 have j:=S.ok;refine enA (n:=17) (rs:=[]) Tryz.e100 ?_;simp only [BZ,seval];refine ag ay S ?_;clear S;intro h f S d;simp only [BZ,seval];refine au (stA S (i:=0) Tryz.t177.2.1) ?_;clear S;rintro h ⟨S,g⟩;clear g;simp only [LC,ae,lay,Xc,Xd,seval]at S;simp only [BZ,S.lds (b:=f) (o:=0) (n:=1) m0 (lbt rfl),seval];refine au (av S (i:=i+1) e Tryz.t58.2.1 C8 (zO (lbt rfl)) ono) ?_;clear S;rintro h ⟨S,_⟩;simp only [LC,ae,lay,Xc,Xd,seval]at S;simp only [BZ];exact dK (cq ⟨rfl,_,rfl,⟨_,rfl⟩,rfl,S.drop1⟩)
theorem AM(z:OZ d){f:Gra}(j:pP f){m:Value}(A:cM d m p q f):Ret zB 44 [gy f m p q] d fun r h'=>Gr d h'/\((gD f/\r=.nilIface)\/(¬gD f/\ ∃t v,r=.iface t v)):=by
 have S:=Si z;refine erA (n:=6) (rs:=[.cell 2 58]) Tryz.e44 ?_;simp only [BZ,gy,seval];refine ag (bG (by intro x e;cases e)) S ?_;clear S;intro h b S B;simp only [ae]at S;simp only [BZ];refine ag ay S ?_;clear S;intro h s S w;simp only [BZ,S.lds (b:=b) (o:=0) (n:=4) m1 (lbt rfl),seval];refine ce (look_any S.ok j (A.gr S.gr)) ?_;rintro o y h ⟨rfl,g,⟨k,u,rfl⟩|⟨k,c,rfl⟩⟩
 . replace S:=S.call g;simp only [BZ,seval];refine au (av S (i:=0) rfl ?_ ?_ ?_ ono) ?_
   . exact(by simp only [FA0])
   . exact(by exact fl_nili)
   . exact zO (lbt rfl)
   clear S;rintro h ⟨S,C⟩;clear C;simp only [LC,ae,lay,Xc,Xd,seval]at S;simp only [BZ];refine hU (un_fn (dZ (check1_ok S.ok) fun o y h' ⟨a,b,g⟩=>⟨a,b,cq ⟨rfl,?_⟩⟩));replace S:=S.call g;have l:=S.ld (b:=s) (o:=0) m0 rfl;exact⟨_,sZ (by decide) (by simp only [ax,ah,seval];exact zj Tryz.t58.1 l),S.gr,.inl ⟨k,rfl⟩⟩
 . replace S:=S.call g;simp only [BZ];refine cg (u9 (dZ (check1_no S (i:=0) rfl) fun o y h' ⟨a,e,S⟩=>⟨a,_,_,e,cq ?_⟩));simp only [LC,Yg,Yi]at S;simp only [if_true];have l:=S.ld (b:=s) (o:=0) m0 rfl;exact⟨_,sZ (by decide) (by simp only [ax,ah,seval];exact zj Tryz.t58.1 l),S.gr,.inr ⟨k,_,_,rfl⟩⟩
theorem check_ok{b:Hp}(h:OZ b){c:Gra}(a:jT c){d e:Value}(i:cM b d e f c):cj zB 44 [gy c d e f] b .nilIface:=
 iJ (AM h a.raw.1 i) fun _ _ ⟨g,q⟩=>⟨q.elim (fun x=>x.2) fun x=>absurd a.raw.2 x.1,g⟩
theorem tX(i:OZ a)(hs:aH a 1 (encI .i64) v xs)(p:xs.length<1000000):Ret zB 106 [v] a fun r h'=>Gr a h'/\aH h' 1 (encI .i64) r xs/\ ∀c,az r c->a.n<=c:=by
 have S:=Si i;rcases hs with⟨rfl,rfl⟩|⟨b,o,s,c,rfl,j,k⟩
 . refine erA (n:=8) (rs:=[.tmp 2]) Tryz.e106 ?_;simp only [BZ,ab,seval];exact⟨S.gr,.inl ⟨rfl,rfl⟩,fun c d=>d.elim⟩
 . refine erA (n:=8) (rs:=[.tmp 2]) Tryz.e106 ?_;simp only [BZ,seval];refine ag (bE (by exact Tryz.t23.1) (by exact Tryz.e2E) (by decide) (by rfl)) S ?_;clear S;intro h q S f;simp only [LC,bz,bN,ae,Xk,Xj,Xb,Xp,seval]at S;simp only [BZ,seval];refine dc (S.cloneSl (enc:=encI .i64) (xs:=[]) Tryz.t23.1 Tryz.e2E (by decide) Tryz.t23.2.2.2.2.2 (.inr ⟨b,o,s,c,rfl,j,S.old k (fun h=>h)⟩) (fun x=>rfl) (by decide) (by simp only [X9,Xj];omega) (S.row m0)) ?_;rintro h' v ⟨l,g,m,d⟩;simp only [BZ,ab,seval];refine⟨l.gr,by simpa using m,fun c h=>(d c h).elim (fun e=>by omega) (fun e=>Xl S.fr.n e)⟩
theorem Dg(i:OZ a){xs:List Arc}(hs:aH a 3 (cQ) v xs)(p:xs.length<1000000):Ret zB 107 [v] a fun r h'=>Gr a h'/\aH h' 3 (cQ) r xs/\(∀c,az r c->a.n<=c)/\WrK h' 3 cQ r xs:=by
 have S:=Si i;rcases hs with⟨rfl,rfl⟩|⟨b,o,s,c,rfl,j,k⟩
 . refine erA (n:=8) (rs:=[.tmp 2]) Tryz.e107 ?_;simp only [BZ,ab,seval];exact⟨S.gr,.inl ⟨rfl,rfl⟩,fun c d=>d.elim,fun h=>absurd rfl h⟩
 . refine erA (n:=8) (rs:=[.tmp 2]) Tryz.e107 ?_;simp only [BZ,seval];refine ag (bE (by exact Tryz.t35.1) (by exact Tryz.e81E) (by decide) (by rfl)) S ?_;clear S;intro h q S f;simp only [LC,bz,bN,ae,Xk,Xj,Xb,Xp,seval]at S;simp only [BZ,seval];refine dc (S.cloneW (enc:=cQ) (ys:=xs) Tryz.t35.1 Tryz.e81E (by decide) Tryz.t35.2.2.2.2.2 (.inr ⟨b,o,s,c,rfl,j,S.old k (fun h=>h)⟩) (fun x=>rfl) (by decide) (by omega) (S.row m0)) ?_;rintro h' v ⟨l,g,m,d,w⟩;simp only [BZ,ab,seval];exact⟨l.gr,m,fun c h=>(d c h).elim (fun e=>by omega) (fun e=>Xl S.fr.n e),w⟩
structure DrAt(h:Hp)(bd:Nat)(vB:Value)(xs:List Int)(a:Nat):Prop where
 sl:aH h 1 (encI .u8) vB xs
 ne: ¬az vB bd
 few:xs.length<1000000
 at_:a<100000
def drV(xs:List Int)(n a:Nat):Nat:=if h:xs.length=0 then 0 else(am .u8 (xs[a%xs.length]'(Nat.mod_lt _ (by omega))+am .u8 (am .i64 ((a:Int).tdiv (xs.length:Int))))%(n:Int)).toNat
theorem BJ{f:Hp}(B:OZ f){d a:Nat}(p:Row f d [g,.int .i64 a] 1)(C:DrAt f d g xs a)(K:1<=n)(D:n<1000):Ret zB 42 [ptrTo d,.int .i64 n] f fun v h'=>Mo (· =d) f h'/\ ∃r x:Nat,v=.int .i64 r/\r<n/\x<=a+1/\Row h' d [g,.int .i64 x] 1/\r=drV xs n a:=by
 have S:=St.init1 B (o:=.row [g,.int .i64 a] 1) p;obtain⟨s,u,L,M⟩:=C;have N:=s.fl;have E:am .i64 ((a:Int)+1)=((a+1:Nat):Int):=by rw [wrap64]<;>omega
 have F:am .i64 (((a+1:Nat):Int)-1)=(a:Int):=by rw [wrap64]<;>omega
 have G: ¬(n:Int)<1:=by omega
 by_cases j:xs.length=0
 . have t:(xs.length:Int)=0:=(by omega);refine erA (n:=55) (rs:=[.tmp 4]) Tryz.e42 ?_;simp only [BZ,ab,s.lenq,t,S.ld (b:=d) (o:=0) m0 rfl,seval];exact⟨S.fr,0,a,rfl,by omega,by omega,S.row m0,by unfold drV;rw [dif_pos j]⟩
 . have t: ¬(xs.length:Int)=0:=(by omega);have k:a%xs.length<xs.length:=Nat.mod_lt _ (by omega);have H:(a:Int).tmod (xs.length:Int)=((a%xs.length:Nat):Int):=(by rw [X5 (by omega)];exact(Int.natCast_emod _ _).symm);refine erA (n:=55) (rs:=[.tmp 4]) Tryz.e42 ?_;simp only [BZ,s.lenq,t,G,E,S.ld (b:=d) (o:=0) m0 rfl,S.ld (b:=d) (o:=1) m0 rfl,seval];refine au (av S (i:=0) rfl ?_ ?_ ?_ ono) ?_
   . exact(by simp only [FA0])
   . exact(by exact cD)
   . exact zO (lbt rfl)
   clear S;rintro h ⟨S,I⟩;clear I;simp only [LC,ae,lay,Xc,Xd,seval]at S;have l:aH h 1 (encI .u8) g xs:=s.mo S.fr (fun b J e=>u (e▸J));obtain⟨c,o,m,w⟩:=l.ix (kd:=.i64) (aE _) k;have y:(xs.length:Int)≠0:=t;have A:(n:Int)≠0:=(by omega);simp only [BZ];refine aw (aA rfl) (q:=0) (ps:=[]) (by kernel_rfl) ?_;simp only [BZ,bj,aC,bD,cls,ab,l.lenq,F,fE y,eC y,fE A,H,m,w,encI,S.ld (b:=d) (o:=0) m0 rfl,S.ld (b:=d) (o:=1) m0 rfl,seval];have p:(am .i64 (am .u8 (xs[a%xs.length]+am .u8 (am .i64 ((a:Int).tdiv (xs.length:Int)))))).tmod (n:Int)=((drV xs n a:Nat):Int)/\drV xs n a<n:=(by unfold drV;rw [dif_neg j];generalize xs[a%xs.length]+am .u8 (am .i64 ((a:Int).tdiv (xs.length:Int)))=z;have O:=wrap8 z;rw [wrap64 (by omega) (by omega),X5 (by omega)];have P:=Int.emod_nonneg (am .u8 z) A;have Q:=Int.emod_lt_of_pos (am .u8 z) (show(0:Int)<n by omega);exact⟨by omega,by omega⟩);rw [p.1];exact⟨S.fr,_,a+1,rfl,p.2,Xx _,S.row m0,rfl⟩
theorem jo{b:Hp}(i:OZ b){c a:Nat}(j:Row b c [g,.int .i64 a] 1)(k:DrAt b c g xs a)(l:1<=n)(h:n<1000):Ret zB 42 [ptrTo c,.int .i64 n] b fun v h'=>Mo (· =c) b h'/\ ∃r d:Nat,v=.int .i64 r/\r<n/\d<=a+1/\Row h' c [g,.int .i64 d] 1:=
 (BJ i j k l h).mono fun v h' ⟨f,r,d,e,m,o,p,_⟩=>⟨f,r,d,e,m,o,p⟩
theorem DrAt.mo{h h':Hp}{c:Nat}{g:Value}{xs:List Int}{a i:Nat}(d:DrAt h c g xs a)(f:Mo (· =c) h h')(j:i<100000):DrAt h' c g xs i:=
 ⟨d.sl.mo f (fun b k e=>d.ne (e▸k)),d.ne,d.few,j⟩
theorem A6(y:OZ d){a:Nat}(z:Row d e [g,.int .i64 a] 1)(t:DrAt d e g xs a)(D:a+2<100000):Ret zB 43 [ptrTo e] d fun v h'=>Mo (· =e) d h'/\ ∃r u:Nat,v=.int .i64 r/\r<=2147483647/\u<=a+2/\Row h' e [g,.int .i64 u] 1:=by
 have S:=St.init1 y (o:=.row [g,.int .i64 a] 1) z;refine erA (n:=24) (rs:=[.tmp 2]) Tryz.e43 ?_;simp only [BZ,seval];refine step_ret (jo (n:=12) S.ok (S.row m0) t (by omega) (by omega)) ?_;rintro v h ⟨f,r,w,rfl,A,B,C⟩;replace S:=S.call1 (i:=0) rfl f (o':=.row _ _) C;have c:DrAt h e g xs w:=t.mo f (by omega);simp only [LC]at S;by_cases q:(r:Int)<3
 . simp only [BZ,ab,q,seval];exact⟨S.fr,0,w,rfl,by omega,by omega,S.row m0⟩
 . by_cases s:(r:Int)<10
   . simp only [BZ,q,s,seval];refine step_ret (jo (n:=9) S.ok (S.row m0) c (by omega) (by omega)) ?_;rintro v h ⟨f,b,j,rfl,k,l,m⟩;replace S:=S.call1 (i:=0) rfl f (o':=.row _ _) m;simp only [LC]at S;have p:am .i64 (1+(b:Int))=((1+b:Nat):Int):=(by rw [wrap64]<;>omega);simp only [BZ,ab,p,seval];exact⟨S.fr,1+b,j,rfl,by omega,by omega,S.row m0⟩
   . by_cases x:(r:Int)<11
     . simp only [BZ,q,s,x,seval];refine step_ret (jo (n:=20) S.ok (S.row m0) c (by omega) (by omega)) ?_;rintro v h ⟨f,b,j,rfl,k,l,m⟩;replace S:=S.call1 (i:=0) rfl f (o':=.row _ _) m;simp only [LC]at S;have p:am .i64 (100*(b:Int))=((100*b:Nat):Int):=(by rw [wrap64]<;>omega);simp only [BZ,ab,p,seval];exact⟨S.fr,100*b,j,rfl,by omega,by omega,S.row m0⟩
     . simp only [BZ,q,s,x,seval];refine step_ret (jo (n:=2) S.ok (S.row m0) c (by omega) (by omega)) ?_;rintro v h ⟨f,b,j,rfl,k,l,m⟩;replace S:=S.call1 (i:=0) rfl f (o':=.row _ _) m;simp only [LC]at S;have p:am .i64 (2147483647-(b:Int))=((2147483647-b:Nat):Int):=(by rw [wrap64]<;>omega);simp only [BZ,ab,p,seval];exact⟨S.fr,2147483647-b,j,rfl,by omega,by omega,S.row m0⟩
def ints(l:List Int):List Value:=l.flatMap (encI .i64)
theorem bK(l:List Int):(ints l).length=l.length:=by unfold ints;rw [aG (k:=1) (fun _=>rfl)];omega
theorem fm(l m:List Int):ints (l++m)=ints l++ints m:=by unfold ints;rw [Xs]
theorem raw0_ok{I:Hp}(ok:OZ I)(hr:Row I y [V,.int .i64 ((0:Nat):Int)] 1)(P:DrAt I y V xs 0):Ret zB 13 [ptrTo y] I fun v h'=>Mo (· =y) I h'/\ ∃γ vx vy va,v=gy γ vx vy va/\Good γ/\γ.nodes=1+drV xs 12 0/\cM h' vx vy va γ/\ ∀c,(az vx c\/az vy c\/az va c)->I.n<=c:=by
 have S:=St.init1 ok (o:=.row [V,.int .i64 ((0:Nat):Int)] 1) hr;have bM:=hr.lt ok;refine erA (n:=117) (rs:=[.cell 2 37]) Tryz.e13 ?_;simp only [BZ];refine ag ay S ?_;clear S;intro h L S bx;simp only [BZ,seval];refine step_ret (BJ (n:=12) (a:=0) S.ok (S.row m1) (P.mo S.fr (by omega)) (by omega) (by omega)) ?_;rintro v h ⟨f,g,a0,rfl,bO,bP,R,bT⟩;replace S:=S.call1 (i:=1) rfl f (o':=.row _ _) R;simp only [LC]at S;have w1:am .i64 (1+(g:Int))=((1+g:Nat):Int):=by rw [wrap64]<;>omega
 simp only [BZ,w1,seval];refine ag ay S ?_;clear S;intro h r S bB;simp only [BZ,seval];refine au (stA S (i:=0) Tryz.t7.2.1) ?_;clear S;rintro h ⟨S,M⟩;clear M;simp only [LC,ae,lay,Xc,Xd,seval]at S;simp only [BZ];replace S:=((S.nilG (k:=3)).nilG (k:=1)).nilG (k:=1);generalize hN:1+g=N at S;refine aF (fun(i:Nat) e h=>i<=N/\ ∃(a:Nat) (C F:Value) (X Y:List Int),a<=1+2*i/\X.length=i/\Y.length=i/\(∀x∈X,-2147483648<=x/\x<=2147483647)/\(∀x∈Y,-2147483648<=x/\x<=2147483647)/\
  St (· =y) I h [(r,.row [.int .i64 N,C,F,.slice none 0 0] 1),(L,.row [.int .i64 0,.slice none 0 0,.slice none 0 0,.slice none 0 0] 1),(y,.row [V,.int .i64 a] 1)] [(C,1,ints X),(F,1,ints Y),(.slice none 0 0,3,[])]/\
  e 0=ptrTo y/\e 2=ptrTo L/\e 3=ptrTo r/\e 4=.int .i64 i) (fun i=>N-i) ?_ 0 _ _ ?_
 . clear S;intro i T e h ⟨hi,a,C,F,X,Y,ha,lX,lY,cX,cY,S,g,u,d,r4⟩;by_cases hlt:i<N
   . simp only [BZ,d,r4,aq,hlt,S.ld (b:=r) (o:=0) m0 rfl,seval];refine aw (aA rfl) (q:=32) (ps:=[(1,3)]) (by kernel_rfl) ?_;simp only [BZ,cls,g,d,S.ld (b:=r) (o:=1) m0 rfl,seval];refine cI (jo (n:=9) (a:=a) S.ok (S.row m2) (P.mo S.fr (by omega)) (by omega) (by omega)) ?_;rintro v h ⟨f,r1,a1,rfl,b0,bh,R⟩;have hl:=S.leaves (c:=r) m0 f (by omega);replace S:=S.call1 (i:=2) rfl f (o':=.row _ _) R;simp only [LC]at S;have w9:am .i64 ((r1:Int)-3)=(r1:Int)-3:=(by rw [wrap64]<;>omega);simp only [BZ,cls,w9,seval];refine ey (bE (by exact Tryz.t23.1) (by exact Tryz.e2E) (by decide) (by rfl)) S ?_;clear S;intro h W S J aa;simp only [LC,bz,bN,ae,Xk,Xj,Xb,Xp,seval]at S;simp only [BZ,cls,seval];refine ji (S.grow (j:=0) (m:=1) (new:=ints [(r1:Int)-3]) rfl Tryz.t23.1 Tryz.e2E (by decide) Tryz.t23.2.2.2.2.2 (by simp only [aD];rw [S.lds (b:=W) (o:=0) (n:=1*1) m0 (lbt rfl)];rfl) rfl (by decide) rfl (by rw [bK,bK];simp;omega)) ?_;clear S;rintro h ak S;simp only [LC]at S;replace S:=S.drop1;rw [<-fm]at S;have fX:Fl ak:=(S.gown _ m0).1.fl;simp only [BZ,cls,d,seval];refine dR (av S (i:=0) rfl ?_ ?_ ?_ ono) ?_
     . exact(by simp only [FA0])
     . exact(by assumption)
     . exact zO (lbt rfl)
     clear S;rintro h ⟨S,M⟩;clear M;simp only [LC,ae,lay,Xc,Xd,seval]at S;simp only [BZ,seval];refine⟨by simp only [aT,aZ,aN,a9,aO,ne_eq,not_false_eq_true,bg,bF,aU,aP,bS,ct,ax,XF,d,ah,aI hl,seval],?_⟩;refine aw (aA rfl) (q:=16) (ps:=[(1,3)]) (by kernel_rfl) ?_;simp only [BZ,cls,g,d,S.ld (b:=r) (o:=2) m0 rfl,seval];clear f hl R;refine cI (jo (n:=7) (a:=a1) S.ok (S.row m2) (P.mo S.fr (by omega)) (by omega) (by omega)) ?_;rintro v h ⟨f,G,a2,rfl,bi,bk,R⟩;have hl:=S.leaves (c:=r) m0 f (by omega);replace S:=S.call1 (i:=2) rfl f (o':=.row _ _) R;simp only [LC]at S;simp only [BZ,cls,seval];refine ey (bE (by exact Tryz.t23.1) (by exact Tryz.e2E) (by decide) (by rfl)) S ?_;clear S;intro h W S J aa;simp only [LC,bz,bN,ae,Xk,Xj,Xb,Xp,seval]at S;simp only [BZ,cls,seval];refine ji (S.grow (j:=1) (m:=1) (new:=ints [(G:Int)]) rfl Tryz.t23.1 Tryz.e2E (by decide) Tryz.t23.2.2.2.2.2 (by simp only [aD];rw [S.lds (b:=W) (o:=0) (n:=1*1) m0 (lbt rfl)];rfl) rfl (by decide) rfl (by rw [bK,bK];simp;omega)) ?_;clear S;rintro h al S;simp only [LC]at S;replace S:=S.drop1;rw [<-fm]at S;have fY:Fl al:=(S.gown _ m1).1.fl;simp only [BZ,cls,d,seval];refine dR (av S (i:=0) rfl ?_ ?_ ?_ ono) ?_
     . exact(by simp only [FA0])
     . exact(by assumption)
     . exact zO (lbt rfl)
     clear S;rintro h ⟨S,M⟩;clear M;simp only [LC,ae,lay,Xc,Xd,seval]at S;simp only [BZ,r4,seval];refine⟨by simp only [aT,aZ,aN,a9,aO,ne_eq,not_false_eq_true,bg,bF,aU,aP,bS,ct,ax,XF,d,ah,aI hl,seval],?_⟩;have w:am .i64 ((i:Int)+1)=((i+1:Nat):Int):=(by rw [wrap64]<;>omega);simp only [w];exact T (i+1) _ _ (by omega) ⟨by omega,a2,ak,al,_,_,by omega,by simp [lX],by simp [lY],
      fun x D=>(List.mem_append.1 D).elim (cX x) (fun h=>by simp at h;omega),fun x D=>(List.mem_append.1 D).elim (cY x) (fun h=>by simp at h;omega),S,by simp [ao,g,ah,u,d]⟩
   . have bl : i=N:=(by omega);subst bl;simp only [BZ,g,d,r4,aq,hlt,S.ld (b:=r) (o:=0) m0 rfl,seval];refine step_ret (jo (n:=9) (a:=a) S.ok (S.row m2) (P.mo S.fr (by omega)) (by omega) (by omega)) ?_;rintro v h ⟨f,G,a1,rfl,bi,bh,R⟩;replace S:=S.call1 (i:=2) rfl f (o':=.row _ _) R;simp only [LC]at S;simp only [BZ,seval];refine oh (fun e h=> ∃(X Y:List Int),X.length=i/\Y.length=i/\(∀x∈X,-2147483648<=x/\x<=2147483647)/\(∀x∈Y,-2147483648<=x/\x<=2147483647)/\
      St (· =y) I h [(r,.row [.int .i64 i,C,F,.slice none 0 0] 1),(L,.row [.int .i64 0,.slice none 0 0,.slice none 0 0,.slice none 0 0] 1),(y,.row [V,.int .i64 a1] 1)] [(C,1,ints X),(F,1,ints Y),(.slice none 0 0,3,[])]/\
      e 0=ptrTo y/\e 2=ptrTo L/\e 3=ptrTo r) ?_ ?_ ?_
     . intro _;obtain⟨bX,ix,an⟩:=S.gset (E:=zB) (t:=2) (j:=0) (i:=0) (kd:=.i64) rfl (by rw [bK];omega) Tryz.t2.2.2.1;have bm:iB (some 1) C (.int .i64 0)=_:=ix;simp only [BZ,d,bm,S.ld (b:=r) (o:=1) m0 rfl,seval];refine au (an _ cD) ?_;clear S an;intro h S;simp only [LC]at S;obtain⟨bY,iy,aL⟩:=S.gset (E:=zB) (t:=2) (j:=1) (i:=i-1) (kd:=.i64) rfl (by rw [bK];omega) Tryz.t2.2.2.1;have w1:am .i64 ((i:Int)-1)=((i-1:Nat):Int):=(by rw [wrap64]<;>omega);simp only [BZ,d,w1,iy,S.ld (b:=r) (o:=0) m0 rfl,S.ld (b:=r) (o:=2) m0 rfl,seval];refine au (aL _ cD) ?_;clear S aL;intro h S;simp only [LC]at S;simp only [BZ];have ac: ∀(l:List Int) (j:Nat) (z:Int),(ints l).set j (.int .i64 z)=ints (l.set j z):=by
        intro l
        induction l with
        |nil=>intro j z;rfl| cons x l T=>
          intro j z;cases j with
          |zero=>rfl|succ j=>show _::_=_::_;exact congrArg _ (T j z)
       rw [ac,ac]at S;refine cL ⟨_,_,by simp [lX],by simp [lY],fun x D=>?_,fun x D=>?_,S,by simp [ao,g,ah,u,d]⟩
       . rcases nY D with rfl|⟨j,_,D⟩
         . omega
         . exact cX x (zM D)
       . rcases nY D with rfl|⟨j,_,D⟩
         . omega
         . exact cY x (zM D)
     . intro _;simp only [BZ];exact cL ⟨X,Y,lX,lY,cX,cY,S,by simp [ao,g,ah,u,d]⟩
     . clear S g u d r4 lX lY cX cY X Y f R;rintro e h ⟨X,Y,lX,lY,cX,cY,S,g,u,d⟩;have w3:am .i64 (3*(i:Int))=((3*i:Nat):Int):=(by rw [wrap64]<;>omega);have w4:am .i64 (((3*i:Nat):Int)+1)=((3*i+1:Nat):Int):=(by rw [wrap64]<;>omega);simp only [BZ,g,d,w3,w4,S.ld (b:=r) (o:=0) m0 rfl,seval];refine step_ret (jo (n:=3*i+1) (a:=a1) S.ok (S.row m2) (P.mo S.fr (by omega)) (by omega) (by omega)) ?_;rintro v h ⟨f,B,a2,rfl,bn,bk,R⟩;replace S:=S.call1 (i:=2) rfl f (o':=.row _ _) R;simp only [LC]at S;simp only [BZ,g,seval];refine step_ret (jo (n:=3) (a:=a2) S.ok (S.row m2) (P.mo S.fr (by omega)) (by omega) (by omega)) ?_;rintro v h ⟨f,rr,a3,rfl,b1,b4,R⟩;replace S:=S.call1 (i:=2) rfl f (o':=.row _ _) R;simp only [LC]at S;simp only [BZ,seval];generalize decide ((0:Int)<(rr:Int))=ring;refine iM (fun e h=> ∃(a:Nat) (s:Value) (A:List Arc),a<=a3+2*i/\A.length<=i/\(∀x∈A,x.s<i/\x.t<i/\x.w<=2147483647)/\
        St (· =y) I h [(r,.row [.int .i64 i,C,F,s] 1),(L,.row [.int .i64 0,.slice none 0 0,.slice none 0 0,.slice none 0 0] 1),(y,.row [V,.int .i64 a] 1)] [(C,1,ints X),(F,1,ints Y),(s,3,A.flatMap cQ)]/\
        e 0=ptrTo y/\e 2=ptrTo L/\e 3=ptrTo r/\e 5=.int .i64 B)
        (fun(j:Nat) e h=>j<=i/\ ∃(a:Nat) (s:Value) (A:List Arc),a<=a3+2*j/\A.length<=j/\(∀x∈A,x.s<i/\x.t<i/\x.w<=2147483647)/\
        St (· =y) I h [(r,.row [.int .i64 i,C,F,s] 1),(L,.row [.int .i64 0,.slice none 0 0,.slice none 0 0,.slice none 0 0] 1),(y,.row [V,.int .i64 a] 1)] [(C,1,ints X),(F,1,ints Y),(s,3,A.flatMap cQ)]/\
        e 0=ptrTo y/\e 2=ptrTo L/\e 3=ptrTo r/\e 5=.int .i64 B/\e 6=.bool ring/\e 7=.int .i64 j) (fun j=>i-j) ?_ ?_ 0 ⟨by omega,a3,_,[],by omega,by simp,by simp,S,by simp [ao,g,ah,u,d]⟩
       . clear S g u d f R T;intro j T e h ⟨hj,a,s,A,ha,lA,O,S,g,u,d,G,r6,r7⟩;have K:(A.flatMap cQ).length=A.length*3:=aG dQ A;by_cases hlt:j<i/\ring=true
         . obtain⟨hlt,H⟩:=hlt;subst H;have w1:am .i64 ((j:Int)+1)=((j+1:Nat):Int):=(by rw [wrap64]<;>omega);have ci:(i:Int)≠0:=(by omega);have tm:((j+1:Nat):Int).tmod (i:Int)=(((j+1)%i:Nat):Int):=(by rw [X5 (by omega)];exact(Int.natCast_emod _ _).symm);simp only [BZ,d,r6,r7,aq,hlt,S.ld (b:=r) (o:=0) m0 rfl,seval];refine aw (aA rfl) (q:=2048) (ps:=[(6,9),(1,9)]) (by kernel_rfl) ?_;simp only [BZ,cls,g,d,r7,w1,fE ci,tm,S.ld (b:=r) (o:=0) m0 rfl,S.ld (b:=r) (o:=3) m0 rfl,seval];refine cI (A6 (a:=a) S.ok (S.row m2) (P.mo S.fr (by omega)) (by omega)) ?_;rintro v h ⟨f,U,a4,rfl,Z,bp,R⟩;have hl:=S.leaves (c:=r) m0 f (by omega);replace S:=S.call1 (i:=2) rfl f (o':=.row _ _) R;simp only [LC]at S;simp only [BZ,cls,seval];refine ey (bE (by exact Tryz.t35.1) (by exact Tryz.e81E) (by decide) (by rfl)) S ?_;clear S;intro h W S J aa;simp only [LC,bz,bN,ae,Xk,Xj,Xb,Xp,seval]at S;simp only [BZ,cls,seval];refine ji (S.grow (j:=2) (m:=1) (new:=cQ ⟨j,(j+1)%i,U⟩) rfl Tryz.t35.1 Tryz.e81E (by decide) Tryz.t35.2.2.2.2.2 (by simp only [aD];rw [S.lds (b:=W) (o:=0) (n:=1*3) m0 (lbt rfl)];rfl) rfl (by decide) rfl (by rw [K,dQ];omega)) ?_;clear S;rintro h Q S;simp only [LC]at S;replace S:=S.drop1;have fA:Fl Q:=(S.gown _ m2).1.fl;simp only [BZ,cls,d,seval];refine dR (av S (i:=0) rfl ?_ ?_ ?_ ono) ?_
           . exact(by simp only [FA0])
           . exact(by assumption)
           . exact zO (lbt rfl)
           clear S;rintro h ⟨S,M⟩;clear M;simp only [LC,ae,lay,Xc,Xd,seval]at S;simp only [BZ,r7,seval];refine⟨by simp only [aT,aZ,aN,a9,aO,ne_eq,not_false_eq_true,bg,bF,aU,aP,bS,ct,ax,XF,d,ah,aI hl,seval],?_⟩;simp only [w1];have a8:(j+1)%i<i:=Nat.mod_lt _ (by omega);exact T (j+1) _ _ (by omega) ⟨by omega,a4,Q,A++[⟨j,(j+1)%i,U⟩],by omega,by simp;omega,
            fun x D=>(List.mem_append.1 D).elim (O x) (fun h=>by simp at h;subst h;exact⟨hlt,a8,Z⟩),by rw [Xs];simpa using S,by simp [ao,g,ah,u,d,G,r6]⟩
         . by_cases ad:j<i
           . have H:ring=false:=by cases ring with
              |false=>rfl|true=>exact absurd ⟨ad,rfl⟩ hlt
             subst H;simp only [BZ,d,r6,r7,aq,ad,S.ld (b:=r) (o:=0) m0 rfl,seval];exact cL ⟨a,s,A,by omega,by omega,O,S,by simp [ao,g,ah,u,d,G]⟩
           . simp only [BZ,d,r7,aq,ad,S.ld (b:=r) (o:=0) m0 rfl,seval];exact cL ⟨a,s,A,by omega,by omega,O,S,by simp [ao,g,ah,u,d,G]⟩
       . clear S g u d f R T;rintro e h ⟨a,s,A,ha,lA,O,S,g,u,d,G⟩;simp only [BZ];refine iM (fun e h=> ∃(a:Nat) (s:Value) (A:List Arc),A.length<=100/\(∀x∈A,x.s<i/\x.t<i/\x.w<=2147483647)/\
          St (· =y) I h [(r,.row [.int .i64 i,C,F,s] 1),(L,.row [.int .i64 0,.slice none 0 0,.slice none 0 0,.slice none 0 0] 1),(y,.row [V,.int .i64 a] 1)] [(C,1,ints X),(F,1,ints Y),(s,3,A.flatMap cQ)]/\
          e 0=ptrTo y/\e 2=ptrTo L/\e 3=ptrTo r)
          (fun(k:Nat) e h=>k<=B/\ ∃(a:Nat) (s:Value) (A:List Arc),a<=a3+2*i+6*k/\A.length<=i+2*k/\(∀x∈A,x.s<i/\x.t<i/\x.w<=2147483647)/\
          St (· =y) I h [(r,.row [.int .i64 i,C,F,s] 1),(L,.row [.int .i64 0,.slice none 0 0,.slice none 0 0,.slice none 0 0] 1),(y,.row [V,.int .i64 a] 1)] [(C,1,ints X),(F,1,ints Y),(s,3,A.flatMap cQ)]/\
          e 0=ptrTo y/\e 2=ptrTo L/\e 3=ptrTo r/\e 5=.int .i64 B/\e 8=.int .i64 k) (fun k=>B-k) ?_ ?_ 0 ⟨by omega,a,s,A,by omega,by omega,O,S,by simp [ao,g,ah,u,d,G]⟩
         . clear S g u d G ha lA O a s A;intro k T e h ⟨hk,a,s,A,ha,lA,O,S,g,u,d,G,r8⟩;have K:(A.flatMap cQ).length=A.length*3:=aG dQ A;by_cases hlt:k<B
           . simp only [BZ,G,r8,aq,hlt,seval];refine aw (AZ (ord:=[11,0,1,2,3,4,5,6,7,8,9,10,12]) rfl rfl (by simp only [gH,reix,gK,YB,YC,List.map_toArray,XM,Yv,cond_true,cond_false,seval];exact rfl)) (q:=1) (ps:=[(0,10),(0,8),(4,7),(0,4)]) (by kernel_rfl) ?_;simp only [BZ,cls,seval];refine ey ay S ?_;clear S;intro h b9 S bL ba;simp only [BZ,cls,g,d,S.ld (b:=r) (o:=0) m1 rfl,seval];refine cI (jo (n:=i) (a:=a) S.ok (S.row m3) (P.mo S.fr (by omega)) (by omega) (by omega)) ?_;rintro v h ⟨f,s1,a4,rfl,bb,bp,R⟩;have br:=S.leaves (c:=b9) m0 f (by omega);have bt:=S.leaves (c:=r) m1 f (by omega);replace S:=S.call1 (i:=3) rfl f (o':=.row _ _) R;simp only [LC]at S;simp only [BZ,cls,g,d,S.ld (b:=r) (o:=0) m1 rfl,seval];refine cI (jo (n:=i) (a:=a4) S.ok (S.row m3) (P.mo S.fr (by omega)) (by omega) (by omega)) ?_;rintro v h ⟨f,s2,a5,rfl,bc,b5,R⟩;have bu:=S.leaves (c:=b9) m0 f (by omega);have bv:=S.leaves (c:=r) m1 f (by omega);replace S:=S.call1 (i:=3) rfl f (o':=.row _ _) R;simp only [LC]at S;simp only [BZ,cls,g,seval];refine cI (A6 (a:=a5) S.ok (S.row m3) (P.mo S.fr (by omega)) (by omega)) ?_;rintro v h ⟨f,U,a6,rfl,Z,b6,R⟩;have bw:=S.leaves (c:=b9) m0 f (by omega);replace S:=S.call1 (i:=3) rfl f (o':=.row _ _) R;simp only [LC]at S;simp only [BZ,cls,seval];refine dR (stA S (i:=0) Tryz.t81.2.1) ?_;clear S;rintro h ⟨S,M⟩;clear M;simp only [LC,ae,lay,Xc,Xd,seval]at S;simp only [BZ,d,seval];refine⟨by simp only [aT,aZ,aN,a9,aO,ne_eq,not_false_eq_true,bg,bF,aU,aP,bS,ct,ax,XF,d,ah,<-ba,aI br,aI bu,aI bv,aI bw,aJ bt,seval],?_⟩;simp only [BZ,S.ld (b:=r) (o:=3) m1 rfl,S.lds (b:=b9) (o:=0) (n:=3) m0 (lbt rfl),seval];refine ag (bE (by exact Tryz.t35.1) (by exact Tryz.e81E) (by decide) (by rfl)) S ?_;clear S;intro h W S J;simp only [LC,bz,bN,ae,Xk,Xj,Xb,Xp,seval]at S;simp only [BZ,seval];refine dc (S.grow (j:=2) (m:=1) (new:=cQ ⟨s1,s2,U⟩) rfl Tryz.t35.1 Tryz.e81E (by decide) Tryz.t35.2.2.2.2.2 (by simp only [aD];rw [S.lds (b:=W) (o:=0) (n:=1*3) m0 (lbt rfl)];rfl) rfl (by decide) rfl (by rw [K,dQ];omega)) ?_;clear S;rintro h Q S;simp only [LC]at S;replace S:=S.drop1;have fA:Fl Q:=(S.gown _ m2).1.fl;simp only [BZ,d,seval];refine au (av S (i:=1) rfl ?_ ?_ ?_ ono) ?_
             . exact(by simp only [FA0])
             . exact(by assumption)
             . exact zO (lbt rfl)
             clear S;rintro h ⟨S,M⟩;clear M;simp only [LC,ae,lay,Xc,Xd,seval]at S;simp only [BZ,g,seval];refine step_ret (jo (n:=4) (a:=a6) S.ok (S.row m3) (P.mo S.fr (by omega)) (by omega) (by omega)) ?_;rintro v h ⟨f,r9,a7,rfl,b7,b8,R⟩;replace S:=S.call1 (i:=3) rfl f (o':=.row _ _) R;simp only [LC]at S;have w8:am .i64 ((k:Int)+1)=((k+1:Nat):Int):=(by rw [wrap64]<;>omega);have af:(A.flatMap cQ++cQ ⟨s1,s2,U⟩).length=A.length*3+3:=(by rw [Xf,K,dQ]);have be: ∀x∈A++[(⟨s1,s2,U⟩:Arc)],x.s<i/\x.t<i/\x.w<=2147483647:=fun x D=>(List.mem_append.1 D).elim (O x) (fun h=>by simp at h;subst h;exact⟨bb,bc,Z⟩);by_cases hz:(r9:Int)=0
             . simp only [BZ,d,hz,S.ld (b:=r) (o:=3) m1 rfl,S.ld (b:=b9) (o:=0) m0 rfl,S.ld (b:=b9) (o:=1) m0 rfl,S.ld (b:=b9) (o:=2) m0 rfl,seval];refine ag (bE (by exact Tryz.t35.1) (by exact Tryz.e81E) (by decide) (by rfl)) S ?_;clear S;intro h W S J;simp only [LC,bz,bN,ae,Xk,Xj,Xb,Xp,seval]at S;simp only [BZ,seval];refine dc (S.grow (j:=2) (m:=1) (new:=cQ ⟨s2,s1,U⟩) rfl Tryz.t35.1 Tryz.e81E (by decide) Tryz.t35.2.2.2.2.2 (by simp only [aD];rw [S.lds (b:=W) (o:=0) (n:=1*3) m0 (lbt rfl)];rfl) rfl (by decide) rfl (by rw [af,dQ];omega)) ?_;clear S;rintro h bf S;simp only [LC]at S;replace S:=S.drop1;have fA:Fl bf:=(S.gown _ m2).1.fl;simp only [BZ,d,seval];refine au (av S (i:=1) rfl ?_ ?_ ?_ ono) ?_
               . exact(by simp only [FA0])
               . exact(by assumption)
               . exact zO (lbt rfl)
               clear S;rintro h ⟨S,M⟩;clear M;simp only [LC,ae,lay,Xc,Xd,seval]at S;simp only [BZ,r8,w8,seval];replace S:=S.drop1;exact T (k+1) _ _ (by omega) ⟨by omega,a7,bf,A++[⟨s1,s2,U⟩]++[⟨s2,s1,U⟩],by omega,by simp;omega,
                fun x D=>(List.mem_append.1 D).elim (be x) (fun h=>by simp at h;subst h;exact⟨bc,bb,Z⟩),by rw [Xs,Xs];simpa using S,by simp [ao,g,ah,u,d,G]⟩
             . simp only [BZ,r8,hz,w8,seval];replace S:=S.drop1;exact T (k+1) _ _ (by omega) ⟨by omega,a7,Q,A++[⟨s1,s2,U⟩],by omega,by simp;omega,
                be,by rw [Xs];simpa using S,by simp [ao,g,ah,u,d,G]⟩
           . simp only [BZ,G,r8,aq,hlt,seval];exact cL ⟨a,s,A,by omega,O,S,by simp [ao,g,ah,u,d]⟩
         . clear S g u d G ha lA O a s A;rintro e h ⟨a,s,A,lA,O,S,g,u,d⟩;simp only [BZ,u,d,S.lds (b:=r) (o:=0) (n:=4) m0 (lbt rfl),seval];have fX:Fl C:=(S.gown _ m0).1.fl;have fY:Fl F:=(S.gown _ m1).1.fl;have fA:Fl s:=(S.gown _ m2).1.fl;refine au (stA S (i:=1) Tryz.t37.2.1 (by simp only [ae,Xc,Xd,List.all_cons,List.all_nil,fX.2.1,fY.2.1,fA.2.1,XF];rfl)) ?_;clear S;rintro h ⟨S,_⟩;simp only [LC,ae,lay,Xc,Xd,seval]at S;simp only [BZ,ab];refine⟨_,sZ (by decide) (by simp only [ax,u,ah,seval];exact aY Tryz.t37.1 Tryz.t37.2.1 (S.lds (b:=L) (o:=0) (n:=4) m1 (lbt rfl))),?_⟩;have ai: ∀p∈[(C,1,ints X),(F,1,ints Y),(s,3,A.flatMap cQ)],∀c,az p.1 c->I.n<=c:=by
            intro p hp c hc;obtain⟨h1,h2⟩:=S.gblk hp hc;rcases h1 with h1|h1
            . exact h1
            . exact absurd (by simp [h1]) h2
           refine⟨S.fr,⟨i,X,Y,A⟩,C,F,s,rfl,⟨show 1<=i by omega,show i<=12 by omega,lX,lY,cX,cY,lA,O⟩,show i=_ by omega,⟨(S.gown _ m0).1.sl rfl (fun _=>rfl) (by decide),(S.gown _ m1).1.sl rfl (fun _=>rfl) (by decide),(S.gown _ m2).1.sl rfl (fun _=>rfl) (by decide)⟩,?_⟩;rintro c (hc|hc|hc)
           . exact ai _ m0 c hc
           . exact ai _ m1 c hc
           . exact ai _ m2 c hc
 . exact⟨by omega,a0,_,_,[],[],by omega,rfl,rfl,by simp,by simp,S,by simp [ao,cC,ah]⟩
theorem raw_ok{e:Hp}(m:OZ e){l:Value}(n:Row e k [l,.int .i64 ((0:Nat):Int)] 1)(o:DrAt e k l xs 0):Ret zB 13 [ptrTo k] e fun v h'=>Mo (· =k) e h'/\ ∃g h i j,v=gy g h i j/\Good g/\cM h' h i j g/\ ∀c,(az h c\/az i c\/az j c)->e.n<=c:=
 (raw0_ok m n o).mono fun v h' ⟨f,g,h,i,j,a,b,_,c,d⟩=>⟨f,g,h,i,j,a,b,c,d⟩
theorem aK(g:Gr h h')(a:b<h.n):leaves h h' b=true:=ir (g.get b a)
theorem own_ok{p:Hp}(R:OZ p){w:Gra}(k:jT w){r s l:Value}(G:cM p r s l w):Ret zB 47 [gy w r s l] p fun v h'=>Gr p h'/\ ∃r s l,v=gy w r s l/\cM h' r s l w/\(∀c,az r c\/az s c\/az l c->p.n<=c)/\WrK h' 3 cQ l w.arcs/\ ∀c,az l c-> ¬az r c/\ ¬az s c:=by
 have S:=Si R;have lX:=k.lX;have lY:=k.lY;have n2:=k.n2;have N:=k.many;refine erA (n:=16) (rs:=[.cell 2 37]) Tryz.e47 ?_;simp only [BZ,gy,seval];refine ag (bG (by intro x e;cases e)) S ?_;clear S;intro h b S T;simp only [ae]at S;simp only [BZ];refine ag ay S ?_;clear S;intro h t S O;simp only [BZ];refine aw (aA rfl) (q:=0) (ps:=[(5,7),(2,7),(2,4)]) (by kernel_rfl) ?_;simp only [BZ,cls,S.ld (b:=b) (o:=1) m1 rfl,seval];refine cI (tX S.ok (G.X.gr S.gr) (by omega)) ?_;have U:=S.fr.n;rintro A h ⟨g,f,H⟩;have P:=aK g ((S.row (b:=b) m1).lt S.ok);have I: ∀c,az A c-> ¬c=b:=fun c d e=>by have:=H c d;have:=(S.row (b:=b) m1).lt S.ok;omega
 have J: ∀c,az A c-> ¬c=t:=fun c d e=>by have:=H c d;have:=(S.row (b:=t) m0).lt S.ok;omega
 replace S:=S.call g;simp only [BZ,cls,S.ld (b:=b) (o:=2) m1 rfl,seval];refine cI (tX S.ok (G.Y.gr S.gr) (by omega)) ?_;have V:=S.fr.n;rintro B h ⟨g,j,K⟩;have Q:=aK g ((S.row (b:=b) m1).lt S.ok);have L: ∀c,az B c-> ¬c=b:=fun c d e=>by have:=K c d;have:=(S.row (b:=b) m1).lt S.ok;omega
 have M: ∀c,az B c-> ¬c=t:=fun c d e=>by have:=K c d;have:=(S.row (b:=t) m0).lt S.ok;omega
 replace S:=S.call g;replace f:=f.gr g;simp only [BZ,cls,S.ld (b:=b) (o:=3) m1 rfl,seval];refine cI (Dg S.ok (G.A.gr S.gr) (by omega)) ?_;have W:=S.fr.n;rintro C h ⟨g,m,D,u⟩;have X: ∀c,az C c-> ¬az A c/\ ¬az B c:=fun c d=>⟨fun h=>by have:=D c d;have:=f.lt S.ok h;omega,fun h=>by have:=D c d;have:=j.lt S.ok h;omega⟩;have e3:=aK g ((S.row (b:=b) m1).lt S.ok);have y: ∀c,az C c-> ¬c=b:=fun c d e=>by have:=D c d;have:=(S.row (b:=b) m1).lt S.ok;omega
 have E: ∀c,az C c-> ¬c=t:=fun c d e=>by have:=D c d;have:=(S.row (b:=t) m0).lt S.ok;omega
 replace S:=S.call g;replace f:=f.gr g;replace j:=j.gr g;have z: ∀c,az A c\/az B c\/az C c->p.n<=c:=fun c d=>by
  rcases d with h|h|h
  . exact Xl U (H c h)
  . exact Xl V (K c h)
  . exact Xl W (D c h)
 have Y:=f.fl;have Z:=j.fl;have f3:=m.fl;simp only [BZ,cls,seval];refine dR (av S (i:=1) rfl ?_ ?_ ?_ ono) ?_
 . exact(by simp only [FA0])
 . exact(by assumption)
 . exact zO (lbt rfl)
 clear S;rintro h ⟨S,a⟩;replace f:=f.mo a I;replace j:=j.mo a L;replace m:=m.mo a y;replace u:=u.mo a y;clear a;simp only [LC,ae,lay,Xc,Xd,seval]at S;simp only [BZ,cls,seval];refine dR (av S (i:=1) rfl ?_ ?_ ?_ ono) ?_
 . exact(by simp only [FA0])
 . exact(by assumption)
 . exact zO (lbt rfl)
 clear S;rintro h ⟨S,a⟩;replace f:=f.mo a I;replace j:=j.mo a L;replace m:=m.mo a y;replace u:=u.mo a y;clear a;simp only [LC,ae,lay,Xc,Xd,seval]at S;simp only [BZ,cls,seval];refine dR (av S (i:=1) rfl ?_ ?_ ?_ ono) ?_
 . exact(by simp only [FA0])
 . exact(by assumption)
 . exact zO (lbt rfl)
 clear S;rintro h ⟨S,a⟩;replace f:=f.mo a I;replace j:=j.mo a L;replace m:=m.mo a y;replace u:=u.mo a y;clear a;simp only [LC,ae,lay,Xc,Xd,seval]at S;simp only [BZ,seval];refine⟨by simp only [aT,aZ,aN,a9,aO,ne_eq,not_false_eq_true,bg,bF,aU,aP,bS,ct,ax,XF,cy,ah,aI P,aI Q,aI e3,aJ P,aJ Q,aJ e3,seval],?_⟩;simp only [BZ,S.lds (b:=b) (o:=0) (n:=4) m1 (lbt rfl),seval];refine au (stA S (i:=0) Tryz.t37.2.1 (by simp only [ae,Xc,Xd,List.all_cons,List.all_nil,Y.2.1,Z.2.1,f3.2.1,XF];rfl)) ?_;clear S;rintro h' ⟨S,F⟩;simp only [LC,ae,lay,Xc,Xd,seval]at S;simp only [BZ,ab];refine⟨_,sZ (by decide) (by simp only [ax,ah,seval];exact aY Tryz.t37.1 Tryz.t37.2.1 (S.lds (b:=t) (o:=0) (n:=4) m0 (lbt rfl))),?_⟩;exact⟨S.gr,A,B,C,rfl,⟨f.mo F J,j.mo F M,m.mo F E⟩,z,u.mo F E,X⟩
section
variable(A:List Arc)(f:Arc->Nat)
def outs(j v:Nat):List Nat:=(Xa j).filter fun i=>decide (f (A.getD i default)=v)
def start:Nat->Nat
 |0=>0|v+1=>start v+(outs A f A.length v).length
theorem jB(j v:Nat):outs A f (j+1) v=outs A f j v++(if f (A.getD j default)=v then [j]else []):=by simp_all[outs,Yp,List.filter_append,default,List.filter_cons,List.filter_nil,decide_true,if_true]
theorem outs_pre(h:j<=k)(v:Nat): ∃l,outs A f k v=outs A f j v++l:=by
 induction k with
 |zero=>simp_all| succ k a=>
   by_cases b:j=k+1
   . simp_all
   grind[jB,XW]
theorem zT(h:j<=k)(v:Nat):(outs A f j v).length<=(outs A f k v).length:=by obtain⟨l,a⟩:=outs_pre A f h v;grind
theorem start_eq(v:Nat):start A f v=((Xa A.length).filter fun i=>decide (f (A.getD i default)<v)).length:=by
 have a: ∀(l:List Nat) (v:Nat),(l.filter fun i=>decide (f (A.getD i default)<v+1)).length=(l.filter fun i=>decide (f (A.getD i default)<v)).length+(l.filter fun i=>decide (f (A.getD i default)=v)).length:=by
  intro l v
  induction l with
  |nil=>rfl| cons x l b=>grind
 induction v with
 |zero=>rw [start];symm;simp_all|succ v b=>rw [start,b,a];rfl
theorem sg(v:Nat):start A f v+(outs A f A.length v).length<=A.length:=by have:=start_eq A f (v+1);grind[start,Xl,YI]
theorem yb{v:Nat}(h:u<v):start A f u+(outs A f A.length u).length<=start A f v:=by
 induction v with
 |zero=>omega| succ v a=>rw [start];grind
theorem Df{v s:Nat}(b:r<(outs A f A.length u).length)(hs:s<(outs A f A.length v).length)(h:start A f u+r=start A f v+s):u=v/\r=s:=by
 rcases Nat.lt_trichotomy u v with a|a|a
 . have:=yb A f a;omega
 . grind
 . have:=yb A f a;omega
end
def gp(x:Nat):List Value:=[.int .i64 x]
theorem jb(x:Nat):(gp x).length=1:=rfl
def iO(h:Hp)(m:Nat)(v:Value)(N:Nat)(R:Nat->List Nat):Prop:=
 ∃a b,v=.slice (some ⟨a,0,none⟩) N N/\m<=a/\Row h a b 1/\b.length=N/\ ∀i,i<N-> ∃w,b[i]? =some w/\aH h 1 gp w (R i)/\ ∀c,az w c->m<=c
theorem iO.mo{M:Nat->Prop}{h h':Hp}{v:Value}{m N:Nat}{R:Nat->List Nat}(r:iO h m v N R)(g:Mo M h h')(q: ∀b,M b->b<m):iO h' m v N R:=by obtain⟨e,d,f,s,j,k,l⟩:=r;refine⟨e,d,f,by omega,g.has (o:=.row d 1) j (fun h=>by grind),k,fun i n=>?_⟩;obtain⟨w,a,b,c⟩:=l i n;exact⟨w,a,b.mo g fun x p t=>by grind,fun x p=>by grind⟩
theorem iO.gr(g:Gr h h')(r:iO h m v N R):iO h' m v N R:=
 r.mo (M:=NoM) g.fr (fun _ h=>h.elim)
theorem iO.low{a:Nat}(r:iO h m v N R)(g:a<=m):iO h a v N R:=by
 obtain⟨b,c,d,j,e,f,k⟩:=r;exact⟨b,c,d,by omega,e,f,fun i l=>by
  grind⟩
structure cH(h:Hp)(m:Nat)(p:Value)(γ:Gra):Prop where
 ex: ∃b vx vy va vo vi,p=ptrTo b/\Row h b [.int .i64 γ.nodes,vx,vy,va,vo,vi] 1/\cM h vx vy va γ/\iO h m vo γ.nodes (outs γ.arcs Arc.s γ.arcs.length)/\iO h m vi γ.nodes (outs γ.arcs Arc.t γ.arcs.length)/\m<=b/\ ∀c,az vx c\/az vy c\/az va c->m<=c
theorem cM.mo{M:Nat->Prop}{h h':Hp}{b d e:Value}{i:Gra}(a:cM h b d e i)(g:Mo M h h')(f: ∀c,az b c\/az d c\/az e c-> ¬M c):cM h' b d e i:=
 ⟨a.X.mo g fun c h=>f c (.inl h),a.Y.mo g fun c h=>f c (.inr (.inl h)),a.A.mo g fun c h=>f c (.inr (.inr h))⟩
theorem cH.mo{M:Nat->Prop}{h h':Hp}{m:Nat}{p:Value}{a:Gra}(n:cH h m p a)(g:Mo M h h')(d: ∀b,M b->b<m):cH h' m p a:=by obtain⟨b,e,f,i,j,k,l,q,r,s,t,u,v⟩:=n.ex;exact⟨b,e,f,i,j,k,l,g.has (o:=.row _ 1) q (fun h=>by grind),r.mo g (fun c w x=>by grind),s.mo g d,t.mo g d,u,v⟩
theorem cH.gr{a:Gra}(n:cH h m p a)(g:Gr h h'):cH h' m p a:=n.mo (M:=NoM) g.fr (fun _ h=>h.elim)
theorem mg{a:Type}{F F':Nat->a}(b: ∀i,i<N->i≠k->F' i=F i):((Xa N).map F).set k (F' k)=(Xa N).map F':=by refine Xu fun i=>?_;grind
theorem oZ{a:Type}{F:Nat->a}(b:k<N):((Xa N).map F)[k]? =some (F k):=by simp [b]
theorem slice_at{t e:TypeId}{len l:Nat}{kd1 kd2 a:IntKind}(f:E.und t=some (.slice e))(hs:E.sz e=some k)(c:l<=m)(g:m<=cap):cK E t (.slice (some ⟨b,0,none⟩) len cap) (some (.int kd1 (l:Int))) (some (.int kd2 (l:Int))) (some (.int a (m:Int)))=some (.slice (some ⟨b,if m=l then 0 else l*k,none⟩) 0 (m-l)):=by
 have d: ∀n:Nat,fI (n:Int)=some n:=fun n=>rfl;simp only [cK,f,dE,ef,d,Xh g,Xh c,Xh (Xx l),cond_true,hs,YO,Option.map];by_cases h:m=l
 . subst h;rw [Yw];simp
 . have:XY m l=false:=by
    cases i:XY m l with
    |false=>rfl|true=>exact absurd (Yk i) h
   rw [this,if_neg h];simp [iE]
theorem St.fill{k:Hp}(S:St M k h L G){t m e:TypeId}{d len:Nat}{r l:List Value}{s:Option Nat}{x:Value}(n:L[i]? =some (b,.row l md))(u:E.und t=some (.slice e))(w:ec E e d 1 r)(z:eK E m=some false)(a:aD h 1 x=some (1,[v]))(A:Fl v)(H:len<cap)(B:off+len<l.length)(f:md≠0){ts:List TypeId}:
 ∃h',du E h (t::m::ts) (.slice (some ⟨b,off,s⟩) len cap) x=some (h',.slice (some ⟨b,off,s⟩) (len+1) cap)/\St M k h' (L.set i (b,.row (l.set (off+len) v) md)) G/\Mo (· =b) h h':=by
 obtain⟨⟨I,g,rfl,c⟩,J,C⟩:=w;have D:=S.row (zM n);obtain⟨y,F,p⟩:=D.store S.ok f (o:=off+len) (vs:=[v]) (by simp;omega) (by simp [A.2.1]);have e:lay l (off+len) [v]=l.set (off+len) v:=by
  refine Xu fun j=>?_;rw [kY (by simp;omega),XX];simp only [XJ,X9];by_cases q:off+len=j
  . subst q;rw [if_pos ⟨Xx _,by omega⟩,if_pos rfl,if_pos B];simp
  . rw [if_neg (by omega),if_neg q]
 rw [e]at p;refine⟨h.put b y,?_,S.put n p,(Mo.refl (M:=(· =b)) S.ok).put (.inr rfl) y⟩;simp only [du,z,jx,u,g,c,a];unfold fS;rw [Xh (by omega:len+1<=cap)];simp only [cond_true,c,Xb,F]
theorem note_runq{f:Operand}{xs:Array Operand}{ts:Array TypeId}:dq ρ true (.call ⟨.value f,xs,ts⟩) h h'=none:=rfl
theorem Aq:di i []=none:=rfl
theorem pair_n{x:Option Tch}:my none x=true:=rfl
def KeyF(E:Env)(g:FuncId)(f:Arc->Nat):Prop:= ∀(h:Hp) (a:Arc),OZ h->cj E g [.agg ⟨cQ a⟩] h (.int .i64 (f a))
theorem of2_key:KeyF zB 104 Arc.s:=by intro f a c;have S:=Si c;refine erA (n:=5) (rs:=[.tmp 2]) Tryz.e104 ?_;simp only [BZ,cQ,seval];refine ag (bG (by intro x e;cases e)) S ?_;clear S;intro h b S d;simp only [ae]at S;simp only [BZ,ab,S.ld (b:=b) (o:=0) m0 rfl,seval];exact S.gr
theorem of3_key:KeyF zB 105 Arc.t:=by intro f a c;have S:=Si c;refine erA (n:=5) (rs:=[.tmp 2]) Tryz.e105 ?_;simp only [BZ,cQ,seval];refine ag (bG (by intro x e;cases e)) S ?_;clear S;intro h b S d;simp only [ae]at S;simp only [BZ,ab,S.ld (b:=b) (o:=1) m0 rfl,seval];exact S.gr
theorem rI(A:List Arc)(f:Arc->Nat)(j v:Nat):(outs A f j v).length<=j:=by unfold outs;exact Xl (YI _ _) (by simp)
theorem zw(z:Value)(N:Nat):bz [z] ((N:Int)).toNat=(Xa N).map fun _=>z:=by
 rw [Yh];have: ∀n,bz [z] n=XS n z:=by
  intro n
  induction n with
  |zero=>rfl|succ n a=>simp [bz,a,YM]
 rw [this,X8,List.length_range]
def pg(A:List Arc)(f:Arc->Nat)(i v:Nat):Value:=.int .i64 ((outs A f i v).length:Nat)
def je(A:List Arc)(f:Arc->Nat)(b v n:Nat):Value:=.slice (some ⟨b,if(outs A f A.length v).length=0 then 0 else start A f v,none⟩) n (outs A f A.length v).length
theorem cnt_set{A:List Arc}{f:Arc->Nat}(c:i<A.length):((Xa N).map (pg A f i)).set (f A[i]) (.int .i64 (((outs A f i (f A[i])).length+1:Nat):Int))=(Xa N).map (pg A f (i+1)):=by
 have b:A.getD i default=A[i]:=by simp [Xg,c]
 have e:(.int .i64 (((outs A f i (f A[i])).length+1:Nat):Int):Value)=pg A f (i+1) (f A[i]):=by unfold pg;rw [jB,b,if_pos rfl,Xf];rfl
 rw [e];refine mg fun v d a=>?_;unfold pg;rw [jB,b,if_neg (fun e=>a e.symm),Xw]
def zh(A:List Arc)(f:Arc->Nat)(N i:Nat)(cs:List Value):Prop:=
 cs.length=A.length/\ ∀v r x,v<N->(outs A f i v)[r]? =some x->cs[start A f v+r]? =some (.int .i64 (x:Nat))
theorem fill_zero{A:List Arc}{f:Arc->Nat}:zh A f N 0 ((Xa A.length).map fun _=>.int .i64 0):=
 ⟨by simp,fun v r x _ h=>by simp [outs]at h⟩
theorem fill_step{A:List Arc}{f:Arc->Nat}(h:zh A f N i cs)(k:i<A.length):zh A f N (i+1) (cs.set (start A f (f A[i])+(outs A f i (f A[i])).length) (.int .i64 (i:Nat))):=by
 have c:A.getD i default=A[i]:=by simp [Xg,k]
 have g:(outs A f (i+1) (f A[i])).length<=(outs A f A.length (f A[i])).length:=zT A f (by omega) _;rw [jB,c,if_pos rfl,Xf]at g;have hlt:(outs A f i (f A[i])).length<(outs A f A.length (f A[i])).length:=by simp at g;omega
 have l:=sg A f (f A[i]);refine⟨by rw [XL];exact h.1,fun v r x m a=>?_⟩;have n:r<(outs A f (i+1) v).length:=(List.getElem?_eq_some_iff.1 a).1;have d:r<(outs A f A.length v).length:=Ys n (zT A f (by omega) v);rw [XX];by_cases e:start A f (f A[i])+(outs A f i (f A[i])).length=start A f v+r
 . obtain⟨b,o⟩:=Df A f hlt d e;subst b;rw [if_pos e,if_pos (by rw [h.1];omega)];rw [jB,c,if_pos rfl,X3,if_neg (by omega),o,YO]at a;simp at a;rw [a]
 . rw [if_neg e];refine h.2 v r x m ?_;rw [jB,c]at a;by_cases b:f A[i]=v
   . rw [if_pos b,X3]at a;subst b;by_cases j:r<(outs A f i (f A[i])).length
     . rw [if_pos j]at a;exact a
     . rw [if_neg j]at a;have:=(List.getElem?_eq_some_iff.1 a).1;simp at this;exact absurd (by omega) e
   . rw [if_neg b,Xw]at a;exact a
theorem of1_ok{t:Hp}(ok:OZ t){y:Gra}(K:jT y){L:Value}(hb:Row t b [.int .i64 y.nodes,vx,vy,L] 1)(ga:cM t vx vy L y){g:FuncId}{f:Arc->Nat}(hk:KeyF zB g f)(hf: ∀a∈y.arcs,f a<y.nodes):Ret zB 103 [.func (.func g) #[] #[],ptrTo b] t fun v h'=>Gr t h'/\iO h' t.n v y.nodes (outs y.arcs f y.arcs.length):=by
 have S:=Si ok;have n2:=K.n2;have M:=K.many;obtain⟨N,X,Y,A⟩:=y;simp only []at hb n2 M hf;have O:aH t 3 cQ L A:=ga.A;have l0:=hb.load1 (o:=0) rfl;have l3:=hb.load1 (o:=3) rfl;refine erA (n:=85) (rs:=[.tmp 3]) Tryz.e103 ?_;simp only [BZ,l0,seval];refine ag (kQ (by exact Tryz.t38.1) (by exact Tryz.e3E) (by omega) (by omega)) S ?_;clear S;intro h C S ai;rw [zw]at S;replace S:St NoM t h [(C,.row ((Xa N).map (pg A f 0)) 1)] []:=S;simp only [BZ,S.old l3 (fun h=>h),O.lenq,Yh,seval];refine aF (fun(i:Nat) m h=>i<=A.length/\St NoM t h [(C,.row ((Xa N).map (pg A f i)) 1)] []/\m 0=.func (.func g) #[] #[]/\m 1=ptrTo b/\m 4=.slice (some ⟨C,0,none⟩) N N/\m 18=L/\m 19=.int .i64 A.length/\m 20=.int .i64 i) (fun i=>A.length-i) ?_ 0 _ _ ?_
 . clear S;intro i Q m h ⟨hi,S,r0,r1,r4,r18,r19,r20⟩;by_cases hlt:i<A.length
   . obtain⟨c,o,u,D⟩:=(O.gr S.gr).ix (kd:=.i64) dQ hlt;have p:f A[i]<N:=hf _ (XH hlt);have a1:=rI A f i (f A[i]);have w:am .i64 ((i:Int)+1)=((i+1:Nat):Int):=(by rw [wrap64]<;>omega);have Z:am .i64 (((outs A f i (f A[i])).length:Int)+1)=(((outs A f i (f A[i])).length+1:Nat):Int):=(by rw [wrap64]<;>omega);simp only [BZ,r18,r19,r20,aq,hlt,u,D,seval];refine ag ay S ?_;clear S;intro h b6 S ak;simp only [BZ,cQ,seval];refine au (stA S (i:=0) Tryz.t81.2.1) ?_;clear S;rintro h ⟨S,z⟩;clear z;simp only [LC,ae,lay,Xc,Xd,seval]at S;simp only [BZ,r0,r4,S.lds (b:=b6) (o:=0) (n:=3) m0 (lbt rfl),seval];refine ar (hk _ A[i] S.ok) ?_;intro h g;replace S:=S.call g;have E:=S.ld (b:=C) (o:=f A[i]) m1 (oZ (F:=pg A f i) p);unfold pg at E;simp only [BZ,p,E,Z,seval];refine au (av S (i:=1) rfl Tryz.t3.2.2.1 cD (by simpa using p) ono) ?_;clear S E;rintro h ⟨S,z⟩;clear z;simp only [LC]at S;rw [cnt_set hlt]at S;replace S:=S.drop1;simp only [BZ,r20,w,seval];exact Q (i+1) _ _ (by omega) ⟨by omega,S,by simp [ao,r0,r1,ah,r4,r18,r19]⟩
   . have G : i=A.length:=(by omega);subst G;simp only [BZ,r19,r20,aq,hlt,seval];refine aw (aA rfl) (q:=72) (ps:=[]) (by kernel_rfl) ?_;simp only [BZ,cls,r1,S.old l3 (fun h=>h),O.lenq,seval];refine ey (kQ (by exact Tryz.t38.1) (by exact Tryz.e3E) (by omega) (by omega)) S ?_;clear S;intro h d S R al;rw [zw]at S;simp only [BZ,cls,r1,S.old l0 (fun h=>h),Yh,seval];refine ey (kQ (by exact Tryz.t140.1) (by exact Tryz.e38E) (by omega) (by omega)) S ?_;clear S;intro h I S T an;rw [zw]at S;simp only [BZ,cls,r4,Yh,seval];have e0:(Xa N).map (fun v=>if v<0 then je A f d v 0 else .slice none 0 0)=(Xa N).map (fun _=>(.slice none 0 0:Value)):=(by simp);rw [<-e0]at S;refine aF (fun(j:Nat) m h=>j<=N/\St NoM t h [(I,.row ((Xa N).map fun v=>if v<j then je A f d v 0 else .slice none 0 0) 1),(d,.row ((Xa A.length).map fun _=>.int .i64 0) 1),(C,.row ((Xa N).map (pg A f A.length)) 1)] []/\
      m 0=.func (.func g) #[] #[]/\m 1=ptrTo b/\m 7=.slice (some ⟨d,0,none⟩) A.length A.length/\m 8=.slice (some ⟨I,0,none⟩) N N/\m 9=.int .i64 (start A f j)/\m 40=.slice (some ⟨C,0,none⟩) N N/\m 41=.int .i64 N/\m 42=.int .i64 j) (fun j=>N-j) ?_ 0 _ _ ?_
     . clear S r0 r1 r4 r18 r19 r20;intro j Q m h ⟨hj,S,r0,r1,r7,r8,r9,r40,r41,r42⟩;by_cases B:j<N
       . have E:=S.ld (b:=C) (o:=j) m2 (oZ (F:=pg A f A.length) B);unfold pg at E;have aa:=sg A f j;have w:am .i64 ((j:Int)+1)=((j+1:Nat):Int):=(by rw [wrap64]<;>omega);have Z:am .i64 ((start A f j:Int)+((outs A f A.length j).length:Nat))=((start A f j+(outs A f A.length j).length:Nat):Int):=(by rw [wrap64]<;>omega);have sl:cK zB 38 (.slice (some ⟨d,0,none⟩) A.length A.length) (some (.int .i64 (start A f j))) (some (.int .i64 (start A f j))) (some (.int .i64 ((start A f j+(outs A f A.length j).length:Nat):Int)))=some (je A f d j 0):=by
          rw [slice_at Tryz.t38.1 Tryz.t3.2.2.1 (by omega) (by omega)];unfold je;rw [YD,Xb];by_cases H:(outs A f A.length j).length=0
          . rw [if_pos (by omega),if_pos H]
          . rw [if_neg (by omega),if_neg H]
         have fr:Fl (je A f d j 0):=bJ;simp only [BZ,XD,r7,r8,r9,r40,r41,r42,aq,B,E,Z,sl,seval];refine au (av S (i:=0) rfl Tryz.t38.2.2.1 fr (by simpa using B) ono) ?_;clear S E;rintro h ⟨S,z⟩;clear z;simp only [LC]at S;rw [show((Xa N).map fun v=>if v<j then je A f d v 0 else .slice none 0 0).set j (je A f d j 0)=(Xa N).map fun v=>if v<j+1 then je A f d v 0 else .slice none 0 0 from by
          have:=mg (N:=N) (k:=j) (F:=fun v=>if v<j then je A f d v 0 else .slice none 0 0) (F':=fun v=>if v<j+1 then je A f d v 0 else .slice none 0 0) (fun v J U=>by
           show ite _ _ _=ite _ _ _;by_cases h1:v<j
           . rw [if_pos h1,if_pos (by omega)]
           . rw [if_neg h1,if_neg (by omega)])
          simp only [if_pos (show j<j+1 by omega)]at this;exact this]at S
         simp only [BZ,r9,r42,w,Z,seval];exact Q (j+1) _ _ (by omega) ⟨by omega,S,by simp [ao,r0,r1,ah,r7,r8,start,r40,r41]⟩
       . have ac:j=N:=(by omega);subst ac;simp only [BZ,r1,r41,r42,aq,B,S.old l3 (fun h=>h),O.lenq,seval];have e1:((Xa j).map fun v=>if v<j then je A f d v 0 else .slice none 0 0)=(Xa j).map fun v=>je A f d v (outs A f 0 v).length:=(by refine List.map_congr_left fun v J=>?_;rw [if_pos (List.mem_range.1 J)];rfl);rw [e1]at S;refine aF (fun(i:Nat) m h=>i<=A.length/\(∃cs,zh A f j i cs/\St NoM t h [(I,.row ((Xa j).map fun v=>je A f d v (outs A f i v).length) 1),(d,.row cs 1),(C,.row ((Xa j).map (pg A f A.length)) 1)] [])/\
          m 0=.func (.func g) #[] #[]/\m 1=ptrTo b/\m 8=.slice (some ⟨I,0,none⟩) j j/\m 62=L/\m 63=.int .i64 A.length/\m 64=.int .i64 i) (fun i=>A.length-i) ?_ 0 _ _ ?_
         . clear S r0 r1 r7 r8 r9 r40 r41 r42;intro i Q m h ⟨hi,⟨cs,hcs,S⟩,r0,r1,r8,r62,r63,r64⟩;by_cases hlt:i<A.length
           . obtain⟨c,o,u,D⟩:=(O.gr S.gr).ix (kd:=.i64) dQ hlt;have p:f A[i]<j:=hf _ (XH hlt);have w:am .i64 ((i:Int)+1)=((i+1:Nat):Int):=(by rw [wrap64]<;>omega);simp only [BZ,r62,r63,r64,aq,hlt,u,D,seval];refine ag ay S ?_;clear S;intro h V S ad;simp only [BZ,cQ,seval];refine au (stA S (i:=0) Tryz.t81.2.1) ?_;clear S;rintro h ⟨S,z⟩;clear z;simp only [LC,ae,lay,Xc,Xd,seval]at S;simp only [BZ];refine aw (aA rfl) (q:=2184) (ps:=[(3,6)]) (by kernel_rfl) ?_;simp only [BZ,cls,r0,r8,S.lds (b:=V) (o:=0) (n:=3) m0 (lbt rfl),seval];refine dq_pure (hk _ A[i] S.ok) ?_;intro h W;replace S:=S.call W;clear W;simp only [BZ,cls,r0,r8,S.lds (b:=V) (o:=0) (n:=3) m0 (lbt rfl),seval];refine dq_pure (hk _ A[i] S.ok) ?_;intro h W;replace S:=S.call W;clear W;have hd:A.getD i default=A[i]:=(by simp [Xg,hlt]);have hl:(outs A f (i+1) (f A[i])).length<=(outs A f A.length (f A[i])).length:=zT A f (by omega) _;rw [jB,hd,if_pos rfl,Xf,Yl]at hl;have aa:=sg A f (f A[i]);have hK:(outs A f A.length (f A[i])).length≠0:=(by omega);have lr:=S.ld (b:=I) (o:=f A[i]) m1 (oZ (F:=fun v=>je A f d v (outs A f i v).length) p);simp only [je,if_neg hK]at lr;simp only [BZ,cls,p,lr,seval];refine ey (bE (by exact Tryz.t38.1) (by exact Tryz.e3E) (by decide) (by rfl)) S ?_;clear S;intro h bs S aL a0;simp only [LC,bz,bN,ae,Xk,Xj,Xb,Xp,seval]at S;simp only [BZ,cls,seval];obtain⟨h2,e2,S2,af⟩:=S.fill (i:=3) (x:=.slice (some ⟨bs,0,none⟩) 1 1) (v:=.int .i64 (i:Nat)) (off:=start A f (f A[i])) (len:=(outs A f i (f A[i])).length) (cap:=(outs A f A.length (f A[i])).length) (s:=none) rfl Tryz.t38.1 Tryz.e3E Tryz.t38.2.2.2.2.2
              (by simp only [aD];rw [S.lds (b:=bs) (o:=0) (n:=1*1) m0 (lbt rfl)];rfl) cD (by omega) (by have:=hcs.1;omega) ono (ts:=[])
             refine ji (P:=fun h' v=>h'=h2/\v=.slice (some ⟨d,start A f (f A[i]),none⟩) ((outs A f i (f A[i])).length+1) (outs A f A.length (f A[i])).length) ⟨_,_,e2,rfl,rfl⟩ ?_;rintro h v ⟨rfl,rfl⟩;clear S e2 af;have S:=S2;clear S2;simp only [LC]at S;simp only [BZ,cls,p,seval];refine dR (av S (i:=2) rfl Tryz.t38.2.2.1 bJ (by simpa using p) ono) ?_;clear S;rintro h ⟨S,z⟩;clear z;simp only [LC]at S;have e3:((Xa j).map fun v=>je A f d v (outs A f i v).length).set (f A[i]) (.slice (some ⟨d,start A f (f A[i]),none⟩) ((outs A f i (f A[i])).length+1) (outs A f A.length (f A[i])).length)=(Xa j).map fun v=>je A f d v (outs A f (i+1) v).length:=by
              have:=mg (N:=j) (k:=f A[i]) (F:=fun v=>je A f d v (outs A f i v).length) (F':=fun v=>je A f d v (outs A f (i+1) v).length) (fun v J U=>by
               show je _ _ _ _ _=je _ _ _ _ _;rw [jB,hd,if_neg (fun e=>U e.symm),Xw])
              rw [<-this];congr 1;show _=je _ _ _ _ _;rw [jB,hd,if_pos rfl,Xf];unfold je;rw [if_neg hK];rfl
             rw [e3]at S;replace S:=S.drop1.drop1;simp only [BZ,r64,w,seval];refine⟨by simp only [aT,aZ,aN,a9,aO,ne_eq,not_false_eq_true,bg,bF,aU,aP,bS,ct,ax,XF,r0,r1,r8,ah,note_runq,mR,Aq,pair_n,seval],?_⟩;exact Q (i+1) _ _ (by omega) ⟨by omega,⟨_,fill_step hcs hlt,S⟩,by simp [ao,r0,r1,ah,r8,r62,r63]⟩
           . have G:i=A.length:=(by omega);subst G;simp only [BZ,ab,r8,r63,r64,aq,hlt,seval];refine⟨S.gr,I,_,rfl,T,S.row m0,by simp,fun v J=>⟨_,oZ J,.inr ⟨d,_,none,_,rfl,Xx _,?_⟩,fun c (hc:d=c)=>hc▸R⟩⟩;have hR:=S.row (b:=d) (l:=cs) (md:=1) m1;have ht:=sg A f v;have hl:=hcs.1;rw [Xb];by_cases H:(outs A f A.length v).length=0
             . rw [if_pos H,H,hR.load (by omega)];rw [List.length_eq_zero_iff.1 H];rfl
             . rw [if_neg H,hR.load (by omega)];congr 1;refine Xu fun r=>?_;have e4:(outs A f A.length v).flatMap gp=(outs A f A.length v).map fun x=>.int .i64 (x:Nat):=(by rw [XZ,YN,XZ];rfl);rw [e4,Xt,List.getElem?_take,List.getElem?_drop];by_cases hr:r<(outs A f A.length v).length
               . rw [if_pos hr,hcs.2 v r _ J (Xn hr),Xn hr];rfl
               . rw [if_neg hr,Ym (by omega)];rfl
         . exact⟨Xv _,⟨_,fill_zero,S⟩,by simp [ao,r0,r1,ah,r8]⟩
     . exact⟨Xv _,S,by simp [ao,r0,r1,ah,start,r4]⟩
 . exact⟨Xv _,S,by simp [ao,cy,cS,ah]⟩
theorem of_ok{k:Hp}(F:OZ k){r:Gra}(d:jT r){s t u:Value}(w:cM k s t u r)(y:m<=k.n)(G: ∀c,az s c\/az t c\/az u c->m<=c):Ret zB 46 [gy r s t u] k fun v h'=>Gr k h'/\cH h' m v r:=by
 have S:=Si F;refine erA (n:=20) (rs:=[.tmp 2]) Tryz.e46 ?_;simp only [BZ,gy,seval];refine ag (bG (by intro x e;cases e)) S ?_;clear S;intro h b S H;simp only [ae]at S;simp only [BZ,Xz,XB,XK,S.lds (b:=b) (o:=0) (n:=4) m0 (lbt rfl),seval];refine ag (bG (by intro x e;cases e)) S ?_;clear S;intro h p S q;simp only [ae]at S;simp only [BZ,seval];have I:=S.fr.n;have z:=(S.row (b:=p) m0).lt S.ok;refine step_ret (of1_ok S.ok d (S.row m1) (w.gr S.gr) of2_key (fun a A=>(d.arcs a A).1)) ?_;intro C h ⟨g,f⟩;replace S:=S.call g;simp only [BZ,seval];have J:=S.fr.n;have B:=(S.row (b:=p) m0).lt S.ok;refine step_ret (of1_ok S.ok d (S.row m1) (w.gr S.gr) of3_key (fun a A=>(d.arcs a A).2.1)) ?_;intro v h ⟨g,l⟩;replace S:=S.call g;replace f:=f.gr g;clear g;have K:Fl v:=by obtain⟨_,_,rfl,_⟩:=l;exact bJ
 have L:Fl C:=by obtain⟨_,_,rfl,_⟩:=f;exact bJ
 simp only [BZ,seval];have D: ∀c,c=p->c<_:=fun c e=>e▸z;have E: ∀c,c=p->c<_:=fun c e=>e▸B;refine au (av S (i:=0) rfl ?_ ?_ ?_ ono) ?_
 . exact(by simp only [FA0])
 . exact(by assumption)
 . exact zO (lbt rfl)
 clear S;rintro h ⟨S,j⟩;replace f:=f.mo j D;replace l:=l.mo j E;clear j;simp only [LC,ae,lay,Xc,Xd,seval]at S;simp only [BZ,seval];refine au (av S (i:=0) rfl ?_ ?_ ?_ ono) ?_
 . exact(by simp only [FA0])
 . exact(by assumption)
 . exact zO (lbt rfl)
 clear S;rintro h ⟨S,j⟩;replace f:=f.mo j D;replace l:=l.mo j E;clear j;simp only [LC,ae,lay,Xc,Xd,seval]at S;simp only [BZ,ab,seval];exact⟨S.gr,p,s,t,u,C,v,rfl,S.row m0,w.gr S.gr,f.low (Xl y I),l.low (Xl y J),Xl y q,G⟩
theorem Al(p:OZ a){f:Gra}(d:jT f){i j k:Value}(l:cM a i j k f):Ret zB 14 [gy f i j k] a fun r h'=> ∃v,r=.tuple #[v,.nilIface]/\Gr a h'/\cH h' a.n v f:=by
 have S:=Si p;refine erA (n:=17) (rs:=[.tmp 2,.tmp 3]) Tryz.e14 ?_;simp only [BZ,gy,seval];refine ag (bG (by intro x e;cases e)) S ?_;clear S;intro h b S q;simp only [ae]at S;simp only [BZ,Xz,XB,XK,S.lds (b:=b) (o:=0) (n:=4) m0 (lbt rfl),seval];refine ar (check_ok S.ok d (l.gr S.gr)) ?_;intro h g;replace S:=S.call g;simp only [BZ,Xz,XB,XK,S.lds (b:=b) (o:=0) (n:=4) m0 (lbt rfl),seval];have s:=S.fr.n;refine step_ret (own_ok S.ok d (l.gr S.gr)) ?_;intro v h ⟨g,vx',vy',va',t,ga',hz,_⟩;replace S:=S.call g;subst t;simp only [BZ,seval];refine step_ret (of_ok S.ok d ga' (m:=a.n) S.fr.n (fun c u=>Xl s (hz c u))) ?_;intro v h ⟨g,R⟩;replace S:=S.call g;simp only [BZ,ab,seval];exact⟨_,rfl,S.gr,R⟩
def pos:List Int->Int->Option Nat
 | [],_=>none|y::a,x=>if x=y then some 0 else(pos a x).map (· +1)
def kD:Nat->List Int->List (Value×Value×Nat)
 |_,[]=>[]|o,x::a=>(.int .i64 x,.int .i64 (o:Nat),o)::kD (o+1) a
theorem ents_app(o:Nat)(l:List Int)(x:Int):kD o (l++[x])=kD o l++[(.int .i64 x,.int .i64 ((o+l.length:Nat):Int),o+l.length)]:=by
 induction l generalizing o with
 |nil=>rfl| cons y a b=>show _::kD (o+1) (a++[x])=_::(kD (o+1) a++_);rw [b,XJ,show o+1+a.length=o+(a.length+1) by omega]
theorem ents_len(o:Nat)(l:List Int):(kD o l).length=l.length:=by
 induction l generalizing o with
 |nil=>rfl|cons y a b=>show(kD (o+1) a).length+1=_;rw [b];rfl
theorem keq_int{y:Int}:dP (.int .i64 x) (.int .i64 y)=some (decide (x=y)):=by show some (iN x y)=_;congr 1;rw [nP]
theorem zg(o:Nat)(l:List Int)(x:Int):dG (.int .i64 x) (kD o l)=some ((pos l x).map fun i=>(.int .i64 ((o+i:Nat):Int),o+i)):=by
 induction l generalizing o with
 |nil=>rfl| cons y a b=>
   show(match dP (.int .i64 x) (.int .i64 y)with|none=>none|some true=>some (some (Value.int .i64 (o:Nat),o))|some false=>dG (.int .i64 x) (kD (o+1) a))=_;rw [keq_int,pos];by_cases h:x=y
   . rw [if_pos h,decide_eq_true h];rfl
   . rw [if_neg h,decide_eq_false h];show dG (.int .i64 x) (kD (o+1) a)=_;rw [b];cases pos a x with
     |none=>rfl|some i=>simp;omega
theorem St.mput(S:St M d h L G){t kt el:TypeId}{c:Nat}{a:List (Value×Value×Nat)}{k:Value}(e:L[i]? =some (b,.map a c))(g:E.und t=some (.map kt el))(hf:cE E kt k=true)(j:dG k a=some none):
 ∃h',ku E h t (.map (some b)) k v=some h'/\St M d h' (L.set i (b,.map (a++[(k,v,c)]) (c+1))) G:=by
 have f:h.get b=some (.map a c):=(S.own _ (zM e)).2;refine⟨h.put b (.map (a++[(k,v,c)]) (c+1)),?_,S.put e ?_⟩
 . simp only [ku,lK,g,hf,cond_true,f,j]
 . show(h.put b _).get b=_;rw [Hp.get_put,if_pos ⟨rfl,by rw [f];rfl⟩]
theorem DI{t kt el:TypeId}{c:Nat}{l:List Int}(a:E.und t=some (.map kt el))(d:E.und kt=some (.int .i64))(e:E.zeroV el=some (.int .i64 0))(f:h.get b=some (.map (kD 0 l) c)):fe E h t (.map (some b)) (.int .i64 x) true=some (match pos l x with|some i=>.tuple #[.int .i64 (i:Nat),.bool true]|none=>.tuple #[.int .i64 0,.bool false]):=by
 have hf:cE E kt (.int .i64 x)=true:=by simp only [cE,d];rfl
 simp only [fe,a,hf,cond_true,f,zg,e];cases pos l x with
 |none=>rfl|some i=>simp
def nu(ks:List Int)(x:Int):Nat:=match pos ks x with|some i=>i|none=>ks.length
def oG(ks:List Int)(x:Int):List Int:=match pos ks x with|some _=>ks|none=>ks++[x]
def norm:List Int->List Int->List Int
 |_,[]=>[]|a,x::b=>(nu a x:Int)::norm (oG a x) b
theorem name_ok(k:OZ a){f:Nat}(l:Row a f [.map (some b)] 1)(c:a.get b=some (.map (kD 0 ks) ks.length)):Ret zB 181 [.int .i64 x,ptrTo f] a fun v h'=>Mo (· =b) a h'/\v=.int .i64 (nu ks x)/\h'.get b=some (.map (kD 0 (oG ks x)) (oG ks x).length):=by
 have S:=St.init1 k (o:=.map (kD 0 ks) ks.length) c;have g:=l.load1 (o:=0) rfl;have d:=DI (x:=x) Tryz.t187.1 Tryz.t3.1 (by kernel_rfl) c;have j:ot (some (.map 3 3)) a (.map (some b))=some (.val (.int .i64 (kD 0 ks).length),a):=lenq_map c;rw [ents_len]at j;unfold nu oG;cases e:pos ks x with
 | some i=>rw [e]at d;refine erA (n:=20) (rs:=[.tmp 3]) Tryz.e181 ?_;simp only [BZ,ab,g,d,seval];exact⟨S.fr,c⟩| none=>rw [e]at d;refine erA (n:=20) (rs:=[.tmp 3]) Tryz.e181 ?_;simp only [BZ,g,d,j,seval];refine au (S.mput (i:=0) rfl Tryz.t187.1 (by simp only [cE,Tryz.t3.1];rfl) (by rw [zg,e];rfl)) ?_;clear S;intro h S;simp only [LC]at S;simp only [BZ,ab,seval];have m:h.get b=some (.map (kD 0 ks++[(.int .i64 x,.int .i64 ks.length,ks.length)]) (ks.length+1)):=(S.own _ m0).2;refine⟨S.fr,?_⟩;rw [ents_app,Xf,Xj];exact m
theorem namer_ok(f:OZ a):Ret zB 120 [] a fun v h'=>Gr a h'/\ ∃b c,v=.func (.func 181) #[] #[ptrTo b]/\a.n<=b/\a.n<=c/\Row h' b [.map (some c)] 1/\h'.get c=some (.map [] 0):=by
 have S:=Si f;refine erA (n:=4) (rs:=[.tmp 0]) Tryz.e120 ?_;simp only [BZ];refine ag wI S ?_;clear S;intro h c S d;simp only [BZ];refine ag ay S ?_;clear S;intro h b S e;simp only [BZ,seval];refine au (av S (i:=0) rfl ?_ ?_ ?_ ono) ?_
 . exact(by simp only [FA0])
 . exact(by exact fl_map)
 . exact zO (lbt rfl)
 clear S;rintro h ⟨S,g⟩;clear g;simp only [LC,ae,lay,Xc,Xd,seval]at S;simp only [BZ,ab,seval];exact⟨S.gr,b,c,rfl,e,d,S.row m0,(S.own _ m1).2⟩
theorem each_ok(I:OZ d){g:Nat}{l:List Int}(F:Row d y [.map (some g)] 1)(z:d.get g=some (.map (kD 0 ks) ks.length))(A:aH d 1 (encI .i64) v l)(N:l.length<1000):Ret zB 119 [v,.func (.func 181) #[] #[ptrTo y]] d fun r h'=>Mo (· =g) d h'/\aH h' 1 (encI .i64) r (norm ks l)/\ ∀c,az r c->d.n<=c:=by
 have S:=St.init1 I (o:=.map (kD 0 ks) ks.length) z;have B: ∀c,az v c-> ¬c=g:=by
  rintro c q rfl;rcases A with⟨rfl,_⟩|⟨b,o,s,O,rfl,_,J⟩
  . exact q.elim
  . have:b=c:=q;subst this;simp [Hp.load,z]at J
 have C: ¬y=g:=by rintro rfl;obtain⟨t,P,e,_⟩:=F;rw [z]at e;cases e
 refine erA (n:=21) (rs:=[.tmp 4]) Tryz.e119 ?_;simp only [BZ,A.lenq,seval];replace S:=S.nilG (k:=1);refine aF (fun(i:Nat) p h=>i<=l.length/\ ∃(a done:List Int) (D:Value),norm ks l=done++norm a (l.drop i)/\done.length=i/\St (· =g) d h [(g,.map (kD 0 a) a.length)] [(D,1,ints done)]/\
  p 1=.func (.func 181) #[] #[ptrTo y]/\p 4=D/\p 7=v/\p 8=.int .i64 l.length/\p 9=.int .i64 i) (fun i=>l.length-i) ?_ 0 _ _ ?_
 . clear S;intro i K p h ⟨hi,a,done,D,hn,hd,S,r1,r4,r7,r8,r9⟩;by_cases hlt:i<l.length
   . obtain⟨c,o,u,x⟩:=(A.mo S.fr B).ix (kd:=.i64) (aE .i64) hlt;have w:am .i64 ((i:Int)+1)=((i+1:Nat):Int):=(by rw [wrap64]<;>omega);simp only [BZ,r1,r4,r7,r8,r9,aq,hlt,u,x,encI,seval];refine step_ret (name_ok S.ok (S.fr.has (o:=.row _ 1) F C) (S.own _ m0).2) ?_;rintro r h ⟨f,rfl,G⟩;replace S:=S.call1 (i:=0) rfl f (o':=.map _ _) G;simp only [LC]at S;simp only [BZ,seval];refine ag (bE (by exact Tryz.t38.1) (by exact Tryz.e3E) (by decide) (by rfl)) S ?_;clear S;intro h L S H;simp only [LC,bz,bN,ae,Xk,Xj,Xb,Xp,seval]at S;simp only [BZ,seval];refine dc (S.grow (j:=0) (m:=1) (new:=ints [(nu a l[i]:Int)]) rfl Tryz.t38.1 Tryz.e3E (by decide) Tryz.t38.2.2.2.2.2 (by simp only [aD];rw [S.lds (b:=L) (o:=0) (n:=1*1) m0 (lbt rfl)];rfl) rfl (by decide) rfl (by rw [bK,bK];simp;omega)) ?_;clear S f G x;rintro h M S;simp only [LC]at S;replace S:=S.drop1;rw [<-fm]at S;simp only [BZ,r9,w,seval];refine K (i+1) _ _ (by omega) ⟨by omega,_,_,_,?_,?_,S,by simp [ao,r1,ah,r7,r8]⟩
     . rw [hn,Ya hlt,norm,XW];rfl
     . simp [hd]
   . have E:i=l.length:=(by omega);simp only [BZ,ab,r4,r8,r9,aq,hlt,seval];have e:norm ks l=done:=(by rw [hn,E,List.drop_length,norm,Xw]);rw [e];exact⟨S.fr,(S.gown _ m0).1.sl rfl (aE .i64) (by decide),fun c q=>((S.gblk m0 q).1).elim (fun h=>h) (fun h=>((S.gblk m0 q).2 (by simp [h])).elim)⟩
 . exact⟨Xv _,ks,[],_,rfl,rfl,S,by simp [ao,cy,cS,ah]⟩
structure Hd where
 id:Nat
 key:Int
deriving Inhabited,DecidableEq
variable{l:List Hd}
def hle(a b:Hd):Prop:=a.key<b.key\/(a.key=b.key/\a.id<=b.id)
def hlt(a b:Hd):Prop:=a.key<b.key\/(a.key=b.key/\a.id<b.id)
instance (a b:Hd):Decidable (hlt a b):=by unfold hlt;infer_instance
theorem yT{a b:Hd}(h: ¬hlt a b):hle b a:=by unfold hlt at h;unfold hle;omega
theorem vq{a b:Hd}(h:hlt a b):hle a b:=by unfold hlt at h;unfold hle;omega
theorem lS{a b c:Hd}(h:hle a b)(k:hle b c):hle a c:=by unfold hle at*;omega
theorem xy(a:Hd):hle a a:=by unfold hle;omega
def sw(l:List Hd)(i k:Nat):List Hd:=(l.set i (l.getD k default)).set k (l.getD i default)
theorem jd(l:List Hd)(i k:Nat):(sw l i k).length=l.length:=by simp [sw]
theorem rH(l:List Hd)(i j:Nat)(x:Hd):(l.set i x).getD j default=if i=j/\j<l.length then x else l.getD j default:=by grind
theorem jS(l:List Hd)(a:i<l.length)(b:k<l.length)(j:Nat):(sw l i k).getD j default=if j=k then l.getD i default else if j=i then l.getD k default else l.getD j default:=by unfold sw;grind
theorem wL(l:List Hd)(a:i<l.length)(b:k<l.length):(sw l i k).Perm l:=by grind[set,List.set_set_perm,sw,default]
def oX(l:List Hd):Prop:= ∀j,0<j->j<l.length->hle (l.getD ((j-1)/4) default) (l.getD j default)
def uk(l:List Hd)(i:Nat):Prop:=(∀j,0<j->j<l.length->j≠i->hle (l.getD ((j-1)/4) default) (l.getD j default))/\ ∀j,0<j->j<l.length->(j-1)/4=i->0<i->hle (l.getD ((i-1)/4) default) (l.getD j default)
theorem up_done(h:uk l i)(c:i=0\/hle (l.getD ((i-1)/4) default) (l.getD i default)):oX l:=by
 intro j a b;by_cases e:j=i
 . grind
 . exact h.1 j a b e
theorem up_step(e:i<l.length)(h:uk l i)(n:0<i)(k:hlt (l.getD i default) (l.getD ((i-1)/4) default)):uk (sw l i ((i-1)/4)) ((i-1)/4):=by
 have c:(i-1)/4<l.length:=by omega
 generalize f:(i-1)/4=p at*
 have s:p<i:=by omega
 refine⟨fun j d a m=>?_,fun j d a m o=>?_⟩
 . rw [jd]at a;rw [jS l e c,jS l e c,if_neg m];by_cases b:j=i
   . subst b;rw [f,if_pos rfl,if_pos rfl];exact vq k
   . rw [if_neg b];by_cases g:(j-1)/4=p
     . rw [if_pos g];have:=h.1 j d a b;rw [g]at this;exact lS (vq k) this
     . rw [if_neg g];by_cases e3:(j-1)/4=i
       . rw [if_pos e3];have:=h.2 j d a e3 n;grind
       . rw [if_neg e3];exact h.1 j d a b
 . rw [jd]at a;have q: ¬(p-1)/4=p:=(by omega);have r: ¬(p-1)/4=i:=(by omega);rw [jS l e c,jS l e c,if_neg q,if_neg r,if_neg (show¬j=p by omega)];have t:=h.1 p o c (by omega);by_cases b:j=i
   . grind
   . rw [if_neg b];have:=h.1 j d a b;grind[lS]
def wJ(l:List Hd)(i:Nat):Prop:=(∀j,0<j->j<l.length->(j-1)/4≠i->hle (l.getD ((j-1)/4) default) (l.getD j default))/\ ∀j,0<j->j<l.length->(j-1)/4=i->0<i->hle (l.getD ((i-1)/4) default) (l.getD j default)
theorem dn_done(h:wJ l i)(c: ∀j,0<j->j<l.length->(j-1)/4=i->hle (l.getD i default) (l.getD j default)):oX l:=by
 intro j a b;by_cases e:(j-1)/4=i
 . grind
 . exact h.1 j a b e
theorem dn_step(h:wJ l i)(n:0<b)(a:b<l.length)(m:(b-1)/4=i)(o:hlt (l.getD b default) (l.getD i default))(p: ∀j,0<j->j<l.length->(j-1)/4=i->hle (l.getD b default) (l.getD j default)):wJ (sw l i b) b:=by
 have d:i<l.length:=by omega
 refine⟨fun j e c f=>?_,fun j e c f _=>?_⟩
 . rw [jd]at c;rw [jS l d a,jS l d a,if_neg f];by_cases g:(j-1)/4=i
   . rw [if_pos g];by_cases k:j=b
     . rw [if_pos k];exact vq o
     grind
   . rw [if_neg g];by_cases k:j=b
     . omega
     . rw [if_neg k];by_cases e3:j=i
       . subst e3;rw [if_pos rfl];exact h.2 b n a m e
       . rw [if_neg e3];exact h.1 j e c g
 . rw [jd]at c;rw [jS l d a,jS l d a,m,if_neg (show¬i=b by omega),if_pos rfl,if_neg (show¬j=b by omega),if_neg (show¬j=i by omega)];have:=h.1 j e c (by omega);rwa [f]at this
theorem heap_min(h:oX l): ∀j,j<l.length->hle (l.getD 0 default) (l.getD j default):=by
 intro j
 induction j using Nat.strongRecOn with
 | _ j a=>
   intro b;by_cases e:j=0
   . subst e;exact xy _
   . exact lS (a ((j-1)/4) (by omega) (by omega)) (h j (by omega) b)
theorem qd(l m:List Hd)(a:j<l.length):(l++m).getD j default=l.getD j default:=by grind
theorem Ap(h:oX l)(x:Hd):uk (l++[x]) l.length:=by
 refine⟨fun j a b c=>?_,fun j a b c _=>?_⟩
 . simp at b;rw [qd l _ (by omega),qd l _ (by omega)];exact h j a (by omega)
 grind
theorem EL(h:oX l){x:Hd}(k:hle x (l.getD i default)):uk (l.set i x) i:=by
 refine⟨fun j b a c=>?_,fun j b a c f=>?_⟩
 . rw [XL]at a;rw [rH,rH,if_neg (show¬(i=j/\_)from fun e=>c e.1.symm)]
   split
   . rename_i e;have:=h j b a;grind[lS]
   . exact h j b a
 . rw [XL]at a;rw [rH,rH,if_neg (show¬(i=j/\_) by omega),if_neg (show¬(i=(i-1)/4/\_) by omega)];have g:=h i f (by omega);have d:=h j b a;rw [c]at d;exact lS g d
theorem getD_take(l:List Hd)(a:j<n):(l.take n).getD j default=l.getD j default:=by grind
theorem heap_pop(h:oX l)(d:0<l.length):wJ ((sw l 0 (l.length-1)).take (l.length-1)) 0:=by
 refine⟨fun j a b c=>?_,fun j a b c e=>?_⟩
 . rw [Xo,jd]at b;rw [getD_take _ (by omega),getD_take _ (by omega),jS l (by omega) (by omega),jS l (by omega) (by omega),if_neg (by omega),if_neg (by omega),if_neg (by omega),if_neg (by omega)];exact h j a (by omega)
 . omega
def jf(l:List Hd)(K:Nat->Option Int):Prop:=(l.map Hd.id).Nodup/\ ∀v k,K v=some k↔⟨v,k⟩∈l
def gw(K:Nat->Option Int)(v:Nat)(x:Option Int):Nat->Option Int:=fun u=>if u=v then x else K u
theorem jf.perm{m:List Hd}(h:jf l K)(p:m.Perm l):jf m K:=
 ⟨(p.map Hd.id).nodup_iff.2 h.1,fun v k=>by rw [h.2];grind⟩
theorem jf.free(h:jf l K){v:Nat}(c:K v=none):v∉l.map Hd.id:=by intro a;obtain⟨x,b,rfl⟩:=List.mem_map.1 a;have:=(h.2 x.id x.key).2 b;grind
theorem jf.push(h:jf l K){v:Nat}(d:K v=none)(k:Int):jf (l++[⟨v,k⟩]) (gw K v (some k)):=by
 refine⟨?_,fun u x=>?_⟩
 . rw [List.map_append,XR];exact⟨h.1,by simp,fun a f b g e=>h.free d (by grind)⟩
 . unfold gw;by_cases e:u=v
   . subst e;rw [if_pos rfl,List.mem_append];constructor
     . grind
     . rintro(c|c)
       . have:=(h.2 u x).2 c;grind
       grind
   . rw [if_neg e,List.mem_append,h.2];grind
theorem nodup_idx(h:(l.map Hd.id).Nodup)(a:i<l.length)(b:j<l.length)(e:(l.getD i default).id=(l.getD j default).id):i=j:=by refine sk h (x:=(l.getD i default).id) (by simp [a]) ?_;grind
theorem jf.lower(h:jf l K)(f:i<l.length)(k:Int):jf (l.set i ⟨(l.getD i default).id,k⟩) (gw K (l.getD i default).id (some k)):=by
 have g:(l.set i ⟨(l.getD i default).id,k⟩).map Hd.id=l.map Hd.id:=by rw [List.map_set];refine Xu fun j=>?_;grind
 refine⟨by rw [g];exact h.1,fun u x=>?_⟩;unfold gw;by_cases e:u=(l.getD i default).id
 . rw [if_pos e];constructor
   . intro m;cases m;subst e;exact List.mem_iff_getElem?.2 ⟨i,by simp [f]⟩
   . intro b;obtain⟨j,a⟩:=List.mem_iff_getElem?.1 b;rw [XX]at a
     split at a
     . cases a;rfl
     . rename_i c;have d:=(List.getElem?_eq_some_iff.1 a).1;exact absurd (nodup_idx h.1 f d (by grind)) c
 . rw [if_neg e,h.2];constructor
   . intro b;obtain⟨j,a⟩:=List.mem_iff_getElem?.1 b;refine List.mem_iff_getElem?.2 ⟨j,?_⟩;grind
   grind
theorem jf.pop(h:jf l K)(b:0<l.length):jf ((sw l 0 (l.length-1)).take (l.length-1)) (gw K (l.getD 0 default).id none):=by
 have p:=wL l (i:=0) (k:=l.length-1) b (by omega);have c:=h.perm p;have e:sw l 0 (l.length-1)=(sw l 0 (l.length-1)).take (l.length-1)++[l.getD 0 default]:=by refine Xu fun j=>?_;have g:=jS l (i:=0) (k:=l.length-1) b (by omega) (l.length-1);rw [if_pos rfl]at g;grind[jd,XC,List.getElem?_take_of_lt,Xq,Ym]
 generalize(sw l 0 (l.length-1)).take (l.length-1)=m at*
 generalize l.getD 0 default=x at*
 rw [e]at c;obtain⟨a,o⟩:=c;rw [List.map_append,XR]at a;refine⟨a.1,fun v k=>?_⟩;unfold gw;by_cases d:v=x.id
 . rw [if_pos d];constructor
   . intro h;cases h
   . intro n;exact absurd d (a.2.2 v (List.mem_map_of_mem (f:=Hd.id) n) x.id (by simp))
 grind
theorem jf.at(h:jf l K)(a:i<l.length):K (l.getD i default).id=some (l.getD i default).key:=
 (h.2 _ _).2 (List.mem_iff_getElem?.2 ⟨i,by simp [a]⟩)
theorem jf.idx(h:jf l K){v:Nat}{k:Int}(a:K v=some k): ∃i,i<l.length/\l.getD i default=⟨v,k⟩:=by obtain⟨i,b⟩:=List.mem_iff_getElem?.1 ((h.2 v k).1 a);grind
theorem jf.nil(h:jf [] K)(v:Nat):K v=none:=by
 cases a:K v with
 |none=>rfl|some k=>have:=(h.2 v k).1 a;cases this
theorem cont_nil:jf [] (fun _=>none):=⟨.nil,fun v k=>by grind⟩
def FAR:Nat:=72057594037927936
def WMAX:Nat:=2147483647
theorem FAR_eq:FAR=72057594037927936:=rfl
theorem WMAX_eq:WMAX=2147483647:=rfl
inductive Wk(B:List Arc)(s:Nat):Nat->Nat->Prop where
 |nil:Wk B s s 0
 |snoc {w:Nat} {a:Arc}:a∈B->Wk B s a.s w->Wk B s a.t (w+a.w)
def IsD(B:List Arc)(s v x:Nat):Prop:=(x<FAR/\Wk B s v x/\ ∀w,Wk B s v w->x<=w)\/(x=FAR/\ ∀w,¬Wk B s v w)
theorem IsD.uniq{s v x:Nat}(h:IsD B s v x)(k:IsD B s v y):x=y:=by
 rcases h with⟨a,b,c⟩|⟨a,b⟩<;>rcases k with⟨d,e,f⟩|⟨d,e⟩
 . have:=c _ e;have:=f _ b;omega
 . exact absurd b (e _)
 . exact absurd e (b _)
 . omega
theorem IsD.le{s v x:Nat}(h:IsD B s v x):x<=FAR:=by rcases h with⟨a,_,_⟩|⟨a,_⟩<;>omega
theorem xB: ∀(N:Nat) (l:List Nat),l.Nodup->(∀x∈l,x<N)->l.length<=N
 | 0,l,_,h=>by
   cases l with
   |nil=>simp|cons x l=>have:=h x (by simp);omega
 | N+1,l,b,h=>by
   have f:=xB N (l.erase N) (b.erase N) (fun x c=>by
    have d:=h x (List.mem_of_mem_erase c);have g:x≠N:=fun e=>(by subst e;exact(List.Nodup.not_mem_erase b) c);omega)
   have d:=List.length_erase (a:=N) (l:=l)
   split at d<;>omega
section
variable{B:List Arc}{s N:Nat}{O:List Nat}{D:Nat->Nat}{K:Nat->Option Int}{ex:Arc->Prop}
structure Dj(B:List Arc)(s N:Nat)(O:List Nat)(D:Nat->Nat)(K:Nat->Option Int)(ex:Arc->Prop):Prop where
 i1: ∀v,v∈O->K v=none
 i2: ∀v∈O,Wk B s v (D v)/\(∀w,Wk B s v w->D v<=w)/\D v<=O.length*WMAX
 i2f: ∀v,v∉O->D v=FAR
 i3: ∀v k,K v=some k->v<N/\ ∃n:Nat,k=n/\Wk B s v n/\n<=O.length*WMAX
 i4: ∀a∈B,a.s∈O-> ¬ex a->a.t∈O\/ ∃k:Int,K a.t=some k/\k<=D a.s+a.w
 i5:s∈O\/K s=some 0
 nd:O.Nodup
 lt: ∀v∈O,v<N
theorem Dj.len(d:Dj B s N O D K ex):O.length<=N:=xB N O d.nd d.lt
theorem dj_init(hs:s<N):Dj B s N [] (fun _=>FAR) (gw (fun _=>none) s (some 0)) (fun _=>False):=by
 refine⟨fun v h=>(by cases h),fun v h=>(by cases h),fun v _=>rfl,fun v k h=>?_,fun a _ h=>(by cases h),.inr (by simp [gw]),.nil,fun v h=>(by cases h)⟩;unfold gw at h
 split at h
 . rename_i e;cases h;subst e;exact⟨hs,0,rfl,.nil,by simp⟩
 . cases h
theorem Dj.front(d:Dj B s N O D K (fun _=>False)){x w:Nat}(h:Wk B s x w):x∈O\/ ∃y k,K y=some k/\k<=(w:Int):=by
 induction h with
 |nil=>exact d.i5.imp (fun h=>h) (fun h=>⟨_,_,h,by omega⟩)
 | @snoc w a e f b=>
   rcases b with b|⟨y,k,c,g⟩
   . rcases d.i4 a e b (fun h=>h)with h|⟨k,c,g⟩
     . exact .inl h
     . have:=(d.i2 _ b).2.1 _ f;exact .inr ⟨_,k,c,by omega⟩
   . exact .inr ⟨y,k,c,by omega⟩
theorem Dj.pop(d:Dj B s N O D K (fun _=>False)){v:Nat}(q:K v=some (n:Int))(A: ∀u k,K u=some k->(n:Int)<=k):Dj B s N (O++[v]) (fun u=>if u=v then n else D u) (gw K v none) (fun a=>a.s=v)/\v∉O/\v<N/\n<=O.length*WMAX:=by
 have g:v∉O:=fun h=>by have:=d.i1 v h;rw [q]at this;cases this
 obtain⟨i,C,e,E,l⟩:=d.i3 v _ q;have e:n=C:=by omega
 subst e;have r:(O++[v]).length*WMAX=O.length*WMAX+WMAX:=by rw [Xf,Yl,Nat.succ_mul]
 refine⟨⟨fun u f=>?_,fun u f=>?_,fun u f=>?_,fun u k f=>?_,fun a o t x=>?_,?_,?_,fun u f=>?_⟩,g,i,l⟩
 . unfold gw;by_cases e:u=v
   . rw [if_pos e]
   . rw [if_neg e];simp [e]at f;exact d.i1 u f
 . rw [r];by_cases e:u=v
   . subst e;simp only [if_true];refine⟨E,fun w h=>?_,by omega⟩;rcases d.front h with j|⟨y,k,j,z⟩
     . exact absurd j g
     . have:=A y k j;omega
   . simp only [e,if_false];simp [e]at f;obtain⟨a,b,c⟩:=d.i2 u f;exact⟨a,b,by omega⟩
 . simp at f;simp only [f.2,if_false];exact d.i2f u f.1
 . unfold gw at f
   split at f
   . cases f
   . obtain⟨a,m,b,c,e⟩:=d.i3 u k f;exact⟨a,m,b,c,by rw [r];omega⟩
 . simp [x]at t;have p: ¬a.s=v:=x;simp only [p,if_false];rcases d.i4 a o t (fun h=>h)with h|⟨k,j,z⟩
   . exact .inl (by simp [h])
   . by_cases e:a.t=v
     . exact .inl (by simp [e])
     . exact .inr ⟨k,by unfold gw;rw [if_neg e];exact j,z⟩
 . rcases d.i5 with h|h
   . exact .inl (by simp [h])
   . by_cases e:s=v
     . exact .inl (by simp [e])
     . exact .inr (by unfold gw;rw [if_neg e];exact h)
 . rw [XR];exact⟨d.nd,by simp,fun a o b l e=>g (by simp at l;subst l;subst e;exact o)⟩
 . rcases List.mem_append.1 f with h|h
   . exact d.lt u h
   . simp at h;subst h;exact i
def jX(O:List Nat)(K:Nat->Option Int)(u:Nat)(x:Int):Nat->Option Int:=if u∈O then K else match K u with
 |some k=>if k<=x then K else gw K u (some x)
 |none=>gw K u (some x)
theorem Dj.relaxed(d:Dj B s N O D K ex){a:Arc}(t:a∈B)(hs:a.s∈O)(u:a.t<N)(m:D a.s+a.w<=O.length*WMAX)(w: ∀b∈B,¬ex' b-> ¬ex b\/b=a):Dj B s N O D (jX O K a.t ((D a.s+a.w:Nat):Int)) ex':=by
 have f: ∀i,(∀v,v∈O->i v=K v)->(∀v k,i v=some k->K v=some k\/(v=a.t/\k=((D a.s+a.w:Nat):Int)))->(∀v k,K v=some k-> ∃j,i v=some j/\j<=k)->(a.t∈O\/ ∃k:Int,i a.t=some k/\k<=D a.s+a.w)->Dj B s N O D i ex':=by
  intro i x q r y;refine⟨fun v c=>by rw [x v c];exact d.i1 v c,d.i2,d.i2f,fun v k g=>?_,fun b m n o=>?_,?_,d.nd,d.lt⟩
  . rcases q v k g with h|⟨rfl,rfl⟩
    . exact d.i3 v k h
    . exact⟨u,_,rfl,.snoc t (d.i2 _ hs).1,m⟩
  . rcases w b m o with h|rfl
    . rcases d.i4 b m n h with h|⟨k,z,C⟩
      . exact .inl h
      . obtain⟨j,l,A⟩:=r _ _ z;exact .inr ⟨j,l,by omega⟩
    . exact y
  . rcases d.i5 with h|h
    . exact .inl h
    . obtain⟨j,l,A⟩:=r _ _ h;rcases q _ _ l with p|⟨p,E⟩
      . rw [h]at p;exact .inr (by rw [l,p])
      . exact .inr (by rw [l];congr 1;omega)
 unfold jX;by_cases h:a.t∈O
 . rw [if_pos h];exact f K (fun _ _=>rfl) (fun _ _ h=>.inl h) (fun v k h=>⟨k,h,by omega⟩) (.inl h)
 . rw [if_neg h];have upd:(∀k,K a.t=some k->((D a.s+a.w:Nat):Int)<=k)->Dj B s N O D (gw K a.t (some ((D a.s+a.w:Nat):Int))) ex':=fun g=>by
    refine f _ (fun v c=>?_) (fun v k c=>?_) (fun v k c=>?_) (.inr ⟨((D a.s+a.w:Nat):Int),by unfold gw;rw [if_pos rfl],by omega⟩)
    . unfold gw;rw [if_neg (fun e=>h (by subst e;exact c))]
    . unfold gw at c
      split at c
      . rename_i e;cases c;exact .inr ⟨e,rfl⟩
      . exact .inl c
    . unfold gw;by_cases e:v=a.t
      . rw [if_pos e];subst e;exact⟨_,rfl,g k c⟩
      . rw [if_neg e];exact⟨k,c,by omega⟩
   cases g:K a.t with
   |none=>simp only [];exact upd (fun k e=>by rw [g]at e;cases e)
   | some k=>
     simp only []
     split
     . rename_i hle;exact f K (fun _ _=>rfl) (fun _ _ h=>.inl h) (fun v k h=>⟨k,h,by omega⟩) (.inr ⟨k,g,by omega⟩)
     . rename_i hle;exact upd (fun j e=>by rw [g]at e;cases e;omega)
theorem Dj.done(d:Dj B s N O D K (fun _=>False))(f: ∀v,K v=none)(g:N<=12)(v:Nat):IsD B s v (D v):=by
 have j:=X4 WMAX (Xl d.len g);have:=FAR_eq;have:=WMAX_eq;by_cases h:v∈O
 . obtain⟨a,b,c⟩:=d.i2 v h;exact .inl ⟨by omega,a,b⟩
 . refine .inr ⟨d.i2f v h,fun w i=>?_⟩;rcases d.front i with e|⟨y,k,e,_⟩
   . exact h e
   . rw [f]at e;cases e
end
theorem tP{A:List Arc}{f:Arc->Nat}{v:Nat}:i∈outs A f j v↔i<j/\f (A.getD i default)=v:=by unfold outs;rw [List.mem_filter,YH,decide_eq_true_eq]
def dr(a:Arc):Arc:=⟨a.t,a.s,a.w⟩
structure Ls(B:List Arc)(s N:Nat)(l:Nat->Nat):Prop where
 le: ∀v,l v<=FAR
 wk: ∀v,l v=FAR\/Wk B s v (l v)
 s0:l s=0
def jk(l:Nat->Nat)(v x:Nat):Nat->Nat:=fun u=>if u=v then x else l u
def EM(l:List (Int×Value×Nat)):List (Value×Value×Nat):=l.map fun p=>(.int .i64 p.1,p.2.1,p.2.2)
def fH(f:Int->Option Value)(x:Int)(v:Option Value):Int->Option Value:=fun y=>if y=x then v else f y
def fd(a:List (Value×Value×Nat))(c:Nat)(f:Int->Option Value):Prop:=
 ∃l,a=EM l/\(l.map XQ).Nodup/\(l.map fun p=>p.2.2).Nodup/\(∀p∈l,p.2.2<c)/\ ∀x v,f x=some v↔ ∃n,(x,v,n)∈l
theorem vK{y:Int}:dP (.int .i64 x) (.int .i64 y)=some (decide (x=y)):=by show some (iN x y)=_;congr 1;rw [nP]
theorem Cd{l:List (Int×Value×Nat)}(a:(l.map XQ).Nodup)(h:(x,v,n)∈l):dG (.int .i64 x) (EM l)=some (some (v,n)):=by
 induction l with
 |nil=>cases h
 | cons p l b=>
   obtain⟨y,w,m⟩:=p;show(match dP (.int .i64 x) (.int .i64 y)with|none=>none|some true=>some (some (w,m))|some false=>dG (.int .i64 x) (EM l))=_;rw [vK];grind
theorem find_miss{l:List (Int×Value×Nat)}(h:x∉l.map XQ):dG (.int .i64 x) (EM l)=some none:=by
 induction l with
 |nil=>rfl| cons p l a=>
   obtain⟨y,w,m⟩:=p;show(match dP (.int .i64 x) (.int .i64 y)with|none=>none|some true=>some (some (w,m))|some false=>dG (.int .i64 x) (EM l))=_;simp_all[vK,XM,XP,not_or,decide_eq_false]
theorem u6{l:List (Int×Value×Nat)}(c:(l.map XQ).Nodup)(h:(x,v,n)∈l):
 ∃a b,l=a++(x,v,n)::b/\(∀w,nC (.int .i64 x) w (EM l)=EM (a++(x,w,n)::b))/\mq (.int .i64 x) (EM l)=EM (a++b):=by
 induction l with
 |nil=>cases h
 | cons p l d=>
   obtain⟨y,w,m⟩:=p;rw [XM,Yb]at c;by_cases e:x=y
   . subst e;rcases List.mem_cons.1 h with h|h
     . cases h;refine⟨[],l,rfl,fun u=>?_,?_⟩
       . show(match dP (.int .i64 x) (.int .i64 x)with|some true=>_|_=>_)=_;rw [vK,decide_eq_true rfl];rfl
       . show(match dP (.int .i64 x) (.int .i64 x)with|some true=>_|_=>_)=_;rw [vK,decide_eq_true rfl];rfl
     grind
   . rcases List.mem_cons.1 h with h|h
     . grind
     grind[dP,nC,EM,vK,decide_eq_false,mq]
theorem xb{a b:List (Int×Value×Nat)}(c:((a++(x,v,n)::b).map fun p=>p.2.2).Nodup):jI n w (EM (a++(x,v,n)::b))=some (EM (a++(x,w,n)::b)):=by
 induction a with
 | nil=>
   show(bif XY n n then _ else _)=_;rw [Yw];rfl
 | cons p a d=>
   obtain⟨y,u,m⟩:=p;rw [Yj,XM,Yb]at c;grind[XY,Yk,absurd,jI,EM]
theorem fst_app{a b:List (Int×Value×Nat)}:(a++(x,v,n)::b).map XQ=a.map XQ++x::b.map XQ:=by simp
section
variable{es:List (Value×Value×Nat)}{c:Nat}{f:Int->Option Value}{x:Int}
theorem xO:fd [] 0 (fun _=>none):=⟨[],rfl,.nil,.nil,fun _ h=>(by cases h),fun x v=>⟨fun h=>(by cases h),fun⟨_,h⟩=>(by cases h)⟩⟩
theorem fd.hit(h:fd es c f)(hf:f x=some v): ∃n,dG (.int .i64 x) es=some (some (v,n)):=by obtain⟨l,rfl,a,b,d,e⟩:=h;grind[hf,Cd]
theorem fd.miss(h:fd es c f)(hf:f x=none):dG (.int .i64 x) es=some none:=by obtain⟨l,rfl,e,g,i,a⟩:=h;refine find_miss fun b=>?_;obtain⟨⟨y,v,n⟩,d,rfl⟩:=List.mem_map.1 b;have:=(a y v).2 ⟨n,d⟩;grind
theorem xC{a b:List (Int×Value×Nat)}(e:((a++(x,v,n)::b).map XQ).Nodup)(j:((a++(x,v,n)::b).map fun p=>p.2.2).Nodup)(g: ∀p∈a++(x,v,n)::b,p.2.2<c)(k: ∀x' v',f x'=some v'↔ ∃h,(x',v',h)∈a++(x,v,n)::b):fd (EM (a++(x,w,n)::b)) c (fH f x (some w)):=by
 have i:=e;rw [fst_app,XR]at i;refine⟨_,rfl,by grind,by grind,fun p d=>?_,fun y u=>?_⟩
 . rcases List.mem_append.1 d with d|d
   . grind
   . rcases List.mem_cons.1 d with rfl|d
     . exact g (x,v,n) (by simp)
     grind
 . unfold fH;grind
theorem xF{l:List (Int×Value×Nat)}(g:(l.map XQ).Nodup)(h:(l.map fun p=>p.2.2).Nodup)(i: ∀p∈l,p.2.2<c)(b: ∀x' v',f x'=some v'↔ ∃d,(x',v',d)∈l)(hf:f x=none):fd (EM (l++[(x,w,c)])) (c+1) (fH f x (some w)):=by
 have j:x∉l.map XQ:=fun e=>by obtain⟨⟨y,v,n⟩,a,rfl⟩:=List.mem_map.1 e;have:=(b y v).2 ⟨n,a⟩;grind
 refine⟨_,rfl,?_,?_,fun p a=>?_,fun y u=>?_⟩
 . grind
 . grind
 . grind
 . unfold fH;grind
theorem em_app(l:List (Int×Value×Nat))(v:Value)(n:Nat):EM l++[(.int .i64 x,v,n)]=EM (l++[(x,v,n)]):=by unfold EM;grind
theorem fd.put(h:fd es c f)(v:Value): ∃d o,(match dG (.int .i64 x) es with|none=>none|some (some _)=>some (nC (.int .i64 x) v es,c)|some none=>some (es++[(.int .i64 x,v,c)],c+1))=some (d,o)/\fd d o (fH f x (some v)):=by
 cases hf:f x with
 | none=>
   rw [h.miss hf];obtain⟨l,rfl,g,j,k,i⟩:=h;exact⟨_,_,rfl,by rw [em_app];exact xF g j k i hf⟩
 | some w=>
   obtain⟨n,e⟩:=h.hit hf;rw [e];obtain⟨l,rfl,g,j,k,i⟩:=h;obtain⟨m,p⟩:=(i x w).1 hf;obtain⟨a,b,rfl,q,_⟩:=u6 g p;exact⟨_,_,rfl,by rw [q];exact xC g j k i⟩
theorem del_miss{l:List (Int×Value×Nat)}(h:x∉l.map XQ):mq (.int .i64 x) (EM l)=EM l:=by
 induction l with
 |nil=>rfl| cons p l a=>
   obtain⟨y,w,m⟩:=p;simp only [XM,XP,not_or]at h;grind[dP,mq,EM,vK,decide_eq_false]
theorem fd.del(h:fd es c f):fd (mq (.int .i64 x) es) c (fH f x none):=by
 obtain⟨l,rfl,d,o,g,i⟩:=h;cases hf:f x with
 | none=>
   have q:x∉l.map XQ:=fun e=>(by obtain⟨⟨y,v,n⟩,j,rfl⟩:=List.mem_map.1 e;have:=(i y v).2 ⟨n,j⟩;grind);rw [del_miss q];refine⟨l,rfl,d,o,g,fun y u=>?_⟩;unfold fH;grind
 | some w=>
   obtain⟨m,e⟩:=(i x w).1 hf;obtain⟨a,b,rfl,_,r⟩:=u6 d e;rw [r];have k:=d;rw [fst_app,XR]at k;obtain⟨t,s,z⟩:=k;rw [Yb]at s;refine⟨a++b,rfl,?_,?_,fun p j=>g p ?_,fun y u=>?_⟩
   . grind
   . grind
   . grind
   . unfold fH;grind
theorem fd.ent(h:fd es c f)(z:Value): ∃d q n,(match dG (.int .i64 x) es with|none=>none|some (some (v,n))=>some (nC (.int .i64 x) v es,c,v,n)|some none=>some (es++[(.int .i64 x,z,c)],c+1,z,c))=some (d,q,(f x).getD z,n)/\fd d q (fH f x (some ((f x).getD z)))/\
 ∀w,∃es2,jI n w d=some es2/\fd es2 q (fH f x (some w)):=by
 cases hf:f x with
 | none=>
   rw [h.miss hf];obtain⟨l,rfl,g,i,o,j⟩:=h;have k:=xF (w:=z) g i o j hf;refine⟨_,_,_,rfl,by rw [em_app];exact k,fun w=>?_⟩;rw [em_app];obtain⟨u,e,y,A,B,C⟩:=k;have t:((l++(x,z,c)::[]).map fun p=>p.2.2).Nodup:=(by grind);exact⟨_,xb t,xF g i o j hf⟩
 | some v=>
   obtain⟨l,rfl,g,i,o,j⟩:=h;obtain⟨m,r⟩:=(j x v).1 hf;rw [Cd g r];obtain⟨a,b,rfl,s,_⟩:=u6 g r;refine⟨_,_,_,rfl,by rw [s];exact xC g i o j,fun w=>?_⟩;rw [s];exact⟨_,xb (by simpa using i),xC g i o j⟩
end
section
variable{M:Nat->Prop}{h0 h:Hp}{L:List (Nat×Ob)}{G:List GL}{E:Env}{t kt el:TypeId}{b c:Nat}{es:List (Value×Value×Nat)}{f:Int->Option Value}{x:Int}
theorem vE(a:E.und kt=some (.int .i64)):cE E kt (.int .i64 x)=true:=by simp only [cE,a];rfl
theorem uf(a:E.und t=some (.map kt el))(d:E.und kt=some (.int .i64))(g:E.zeroV el=some z)(i:h.get b=some (.map es c))(m:fd es c f):fe E h t (.map (some b)) (.int .i64 x) true=some (.tuple #[(f x).getD z,.bool (f x).isSome]):=by
 simp only [fe,a,vE d,cond_true,i];cases hf:f x with
 |none=>rw [m.miss hf];simp [g]|some v=>obtain⟨n,e⟩:=m.hit hf;rw [e];simp
theorem vU(a:E.und t=some (.map kt el))(d:E.und kt=some (.int .i64))(g:E.zeroV el=some z)(i:h.get b=some (.map es c))(m:fd es c f):fe E h t (.map (some b)) (.int .i64 x) false=some ((f x).getD z):=by
 simp only [fe,a,vE d,cond_true,i];cases hf:f x with
 |none=>rw [m.miss hf];simp [g]|some v=>obtain⟨n,e⟩:=m.hit hf;rw [e];simp
theorem qM{x:Blk}{a:List (Value×Value×Nat)}{d:Nat}(e:h.get b=some x):(h.put b (.map a d)).get b=some (.map a d):=by rw [Hp.get_put,if_pos ⟨rfl,by rw [e];rfl⟩]
theorem St.mputI(S:St M h0 h L G)(e:L[i]? =some (b,.map es c))(j:E.und t=some (.map kt el))(k:E.und kt=some (.int .i64))(m:fd es c f)(v:Value):
 ∃h',ku E h t (.map (some b)) (.int .i64 x) v=some h'/\Mo (· =b) h h'/\ ∃a d,fd a d (fH f x (some v))/\St M h0 h' (L.set i (b,.map a d)) G:=by
 have g:h.get b=some (.map es c):=(S.own _ (zM e)).2;obtain⟨a,d,n,l⟩:=m.put (x:=x) v;refine⟨h.put b (.map a d),?_,(Mo.refl (M:=(· =b)) S.ok).put (.inr rfl) _,a,d,l,S.put e (o':=.map a d) (qM g)⟩;simp only [ku,lK,j,vE k,cond_true,g];grind
theorem St.mdelI(S:St M h0 h L G)(d:L[i]? =some (b,.map es c))(k:E.und t=some (.map kt el))(l:E.und kt=some (.int .i64))(m:fd es c f):
 ∃h',oz E h t (.map (some b)) (.int .i64 x)=some h'/\Mo (· =b) h h'/\ ∃a g,fd a g (fH f x none)/\St M h0 h' (L.set i (b,.map a g)) G:=by
 have j:h.get b=some (.map es c):=(S.own _ (zM d)).2;refine⟨h.put b (.map (mq (.int .i64 x) es) c),?_,(Mo.refl (M:=(· =b)) S.ok).put (.inr rfl) _,_,c,m.del (x:=x),S.put d (o':=.map _ c) (qM j)⟩;simp only [oz,lK,k,vE l,cond_true,j];cases hf:f x with
 |none=>rw [m.miss hf]|some v=>obtain⟨n,e⟩:=m.hit hf;rw [e]
theorem St.mentI(S:St M h0 h L G)(e:L[i]? =some (b,.map es c))(j:E.und t=some (.map kt el))(k:E.und kt=some (.int .i64))(l:E.zeroV el=some z)(m:fd es c f):
 ∃ h' n,kR E h t (.map (some b)) (.int .i64 x)=some (h',.tuple #[(f x).getD z,.int .i64 (Yn n)])/\Mo (· =b) h h'/\ ∃a d,fd a d (fH f x (some ((f x).getD z)))/\St M h0 h' (L.set i (b,.map a d)) G/\
   ∀w,∃es2,jI n w a=some es2/\fd es2 d (fH f x (some w)):=by
 have g:h.get b=some (.map es c):=(S.own _ (zM e)).2;obtain⟨a,d,n,q,o,p⟩:=m.ent (x:=x) z;refine⟨h.put b (.map a d),n,?_,(Mo.refl (M:=(· =b)) S.ok).put (.inr rfl) _,a,d,o,S.put e (o':=.map a d) (qM g),p⟩;simp only [kR,lK,j,vE k,cond_true,g,l];grind
theorem St.mstoreI(S:St M h0 h L G)(a:L[i]? =some (b,.map es c)){es2:List (Value×Value×Nat)}(hs:jI n w es=some es2):
 ∃h',nJ h (.map (some b)) (.int .i64 (Yn n)) w=some h'/\Mo (· =b) h h'/\St M h0 h' (L.set i (b,.map es2 c)) G:=by
 have d:h.get b=some (.map es c):=(S.own _ (zM a)).2;refine⟨h.put b (.map es2 c),?_,(Mo.refl (M:=(· =b)) S.ok).put (.inr rfl) _,S.put a (o':=.map es2 c) (qM d)⟩;simp only [nJ,d,fI,hs]
end
def nL(x:Hd):List Value:=[.int .i64 x.id,.int .i64 x.key]
theorem lU(x:Hd):(nL x).length=2:=rfl
structure fk(cs:List Value)(cap:Nat)(l:List Hd):Prop where
 len:cs.length=cap*2
 le:l.length<=cap
 at0: ∀i,i<l.length->cs[i*2]? =some (.int .i64 (l.getD i default).id)/\cs[i*2+1]? =some (.int .i64 (l.getD i default).key)
def mw(f:Int->Option Value)(l:List Hd):Prop:=(∀i,i<l.length->f (l.getD i default).id=some (.int .i64 i))/\ ∀x v,f x=some v-> ∃i,i<l.length/\x=(l.getD i default).id
section
variable{h:Hp}{bl cap i:Nat}{cs:List Value}{l:List Hd}{md:Nat}
theorem fk.ld0(c:fk cs cap l)(r:Row h bl cs md)(a:i<l.length):h.load bl (i*2) 1=some [.int .i64 (l.getD i default).id]:=r.load1 (c.at0 i a).1
theorem fk.ld1(c:fk cs cap l)(r:Row h bl cs md)(a:i<l.length):h.load bl (i*2+1) 1=some [.int .i64 (l.getD i default).key]:=r.load1 (c.at0 i a).2
theorem fk.ld2(c:fk cs cap l)(r:Row h bl cs md)(a:i<l.length):h.load bl (i*2) 2=some [.int .i64 (l.getD i default).id,.int .i64 (l.getD i default).key]:=by have d:=(c.at0 i a).1;have b:=(c.at0 i a).2;have e:=(List.getElem?_eq_some_iff.1 b).1;rw [r.load (by omega)];grind[Ya,List.getElem?_eq_some_iff]
theorem xA{x y:Value}(a:i*2+2<=cs.length)(j:Nat):(lay cs (i*2) [x,y])[j]? =if j=i*2 then some x else if j=i*2+1 then some y else cs[j]? :=by rw [kY (by simpa using a)];grind
theorem fk.set(c:fk cs cap l)(d:i<l.length)(x:Hd):fk (lay cs (i*2) [.int .i64 x.id,.int .i64 x.key]) cap (l.set i x):=by
 have f:=c.len;have hle:=c.le;have a:i*2+2<=cs.length:=by omega
 refine⟨by grind[q9],by grind,fun j b=>?_⟩;rw [XL]at b;rw [xA a,xA a,rH];by_cases e:i=j
 . grind
 . rw [if_neg (by omega),if_neg (by omega),if_neg (by omega),if_neg (by omega),if_neg (by omega)];exact c.at0 j b
theorem fk.setKey(c:fk cs cap l)(a:i<l.length)(k:Int):fk (lay cs (i*2+1) [.int .i64 k]) cap (l.set i ⟨(l.getD i default).id,k⟩):=by
 have d:=c.len;have hle:=c.le;have e:lay cs (i*2+1) [.int .i64 k]=lay cs (i*2) [.int .i64 (l.getD i default).id,.int .i64 k]:=by
  refine Xu fun j=>?_;rw [xA (by omega),kY (by simp;omega)];simp only [XJ,X9];by_cases b:j=i*2
  . subst b;rw [if_neg (by omega),if_pos rfl];exact(c.at0 i a).1
  grind
 rw [e];exact c.set a ⟨(l.getD i default).id,k⟩
end
theorem set_sw(l:List Hd)(i k:Nat):(l.set i (l.getD k default)).set k (l.getD i default)=sw l i k:=rfl
theorem mw.inj{f:Int->Option Value}(h:mw f l)(a:i<l.length)(b:j<l.length)(e:(l.getD i default).id=(l.getD j default).id):i=j:=by have c:=h.1 i a;have d:=h.1 j b;grind
theorem mw.swap{f:Int->Option Value}(h:mw f l)(a:i<l.length)(c:k<l.length):mw (fH (fH f ((sw l i k).getD i default).id (some (.int .i64 i))) ((sw l i k).getD k default).id (some (.int .i64 k))) (sw l i k):=by
 have o:=jS l a c i;have p:=jS l a c k;rw [if_pos rfl]at p;refine⟨fun j b=>?_,fun x v n=>?_⟩
 . rw [jd]at b;have d:=jS l a c j;unfold fH;by_cases g:j=k
   . grind
   . rw [if_neg g]at d;by_cases m:j=i
     . subst m;rw [if_neg,if_pos rfl];rw [if_neg g,if_pos rfl]at o;rw [o,p];intro e;exact g (h.inj c a (by omega)).symm
     . rw [if_neg m]at d;rw [if_neg,if_neg]
       . rw [d];exact h.1 j b
       . rw [d,o];intro e
         split at e
         . exact m (h.inj b a (by omega))
         . rename_i e3;rw [if_pos rfl]at e;exact g (h.inj b c (by omega))
       . rw [d,p];intro e;exact m (h.inj b a (by omega))
 . unfold fH at n;by_cases g:x=((sw l i k).getD k default).id
   . grind[jd]
   . rw [if_neg g]at n;by_cases m:x=((sw l i k).getD i default).id
     . grind[jd]
     . rw [if_neg m]at n;obtain⟨j,b,e⟩:=h.2 x v n;refine⟨j,by rw [jd];exact b,?_⟩;have d:=jS l a c j;grind
structure ib(h:Hp)(bh bl bm cap:Nat)(n:Int)(l:List Hd):Prop where
 row:Row h bh [.slice (some ⟨bl,0,some 2⟩) l.length cap,.map (some bm),.int .i64 n] 1
 ex: ∃cs es c f,Row h bl cs 1/\h.get bm=some (.map es c)/\fk cs cap l/\fd es c f/\mw f l
 ne:bh≠bl/\bh≠bm/\bl≠bm
theorem ib.mo{n:Int}(r:ib h e i j cap n l)(g:Mo M h h')(m: ¬M e)(p: ¬M i)(q: ¬M j):ib h' e i j cap n l:=by obtain⟨s,k,c,f,a,b,d⟩:=r.ex;exact⟨g.has (o:=.row _ 1) r.row m,⟨s,k,c,f,g.has (o:=.row _ 1) a p,g.has (o:=.map k c) b q,d⟩,r.ne⟩
theorem ib.mo1{a d:Nat}{n:Int}(r:ib h a b d cap n l)(g:Mo M h h')(e: ∀c,c=a\/c=b\/c=d-> ¬M c):ib h' a b d cap n l:=
 r.mo g (e _ (.inl rfl)) (e _ (.inr (.inl rfl))) (e _ (.inr (.inr rfl)))
theorem ib.lt{h:Hp}(e:OZ h){g i j cap:Nat}{n:Int}{l:List Hd}(r:ib h g i j cap n l): ∀c,c=g\/c=i\/c=j->c<h.n:=by
 obtain⟨k,m,c,f,a,b,d⟩:=r.ex;rintro c (rfl|rfl|rfl)
 . exact r.row.lt e
 . exact a.lt e
 . exact iV e b
theorem ib.gr{a c:Nat}{n:Int}(r:ib h a b c cap n l)(g:Gr h h'):ib h' a b c cap n l:=r.mo (M:=NoM) g.fr (fun h=>h) (fun h=>h) (fun h=>h)
theorem St.init2(d:OZ h){a:Nat}(e:Has h a o1)(f:Has h b o2)(c:a≠b)(m1:M a)(m2:M b):St M h h [(a,o1),(b,o2)] []:=by refine⟨Mo.refl d,fun p g=>?_,fun _ h=>(by cases h),by simp [keys,c]⟩;grind
theorem St.init3(d:OZ h){a c:Nat}{o3:Ob}(i:Has h a o1)(j:Has h b o2)(k:Has h c o3)(e:a≠b)(f:a≠c)(g:b≠c)(m1:M a)(m2:M b)(m3:M c):St M h h [(a,o1),(b,o2),(c,o3)] []:=by refine⟨Mo.refl d,fun p l=>?_,fun _ h=>(by cases h),by simp [keys,e,f,g]⟩;grind
def cmpI(a b:Int):Int:=if a<b then-1 else if b<a then 1 else 0
theorem BG{b:Hp}(c:OZ b){a:Int}:cj zB 243 [.int .i64 a] b (.bool false):=by have S:=Si c;refine erA (n:=6) (rs:=[.tmp 2]) Tryz.e243 ?_;simp only [BZ,ab,seval];exact S.gr
theorem nanI_ok{b:Hp}(c:OZ b){a:Int}:cj zB 244 [.int .i64 a] b (.bool false):=by have S:=Si c;refine erA (n:=6) (rs:=[.tmp 2]) Tryz.e244 ?_;simp only [BZ,ab,seval];exact S.gr
theorem cmp64_ok(f:OZ c){a b:Int}:cj zB 238 [.int .i64 a,.int .i64 b] c (.int .i64 (cmpI a b)):=by
 have S:=Si f;unfold cmpI;refine erA (n:=20) (rs:=[.tmp 4]) Tryz.e238 ?_;simp only [BZ,seval];refine ar (BG S.ok) ?_;intro h g;replace S:=S.call g;simp only [BZ,seval];refine ar (BG S.ok) ?_;intro h g;replace S:=S.call g;by_cases d:a<b
 . simp only [BZ,ab,d,seval];exact S.gr
 . by_cases e:b<a
   . simp only [BZ,ab,d,e,seval];exact S.gr
   . simp only [BZ,ab,d,e,seval];exact S.gr
theorem cmpInt_ok(f:OZ c){a b:Int}:cj zB 239 [.int .i64 a,.int .i64 b] c (.int .i64 (cmpI a b)):=by
 have S:=Si f;unfold cmpI;refine erA (n:=20) (rs:=[.tmp 4]) Tryz.e239 ?_;simp only [BZ,seval];refine ar (nanI_ok S.ok) ?_;intro h g;replace S:=S.call g;simp only [BZ,seval];refine ar (nanI_ok S.ok) ?_;intro h g;replace S:=S.call g;by_cases d:a<b
 . simp only [BZ,ab,d,seval];exact S.gr
 . by_cases e:b<a
   . simp only [BZ,ab,d,e,seval];exact S.gr
   . simp only [BZ,ab,d,e,seval];exact S.gr
theorem or2_ok(q:OZ c){a b:Int}(h:aH c 1 (encI .i64) v [a,b]):cj zB 237 [v] c (.int .i64 (if a=0 then b else a)):=by
 have S:=Si q;obtain⟨j,k,r,f⟩:=h.ix (kd:=.i64) (aE .i64) (i:=0) (by simp);obtain⟨l,m,s,g⟩:=h.ix (kd:=.i64) (aE .i64) (i:=1) (by simp);have d:iB (some 1) v (.int .i64 0)=some (.pointer (some ⟨j,k,none⟩)):=r;have e:iB (some 1) v (.int .i64 1)=some (.pointer (some ⟨l,m,none⟩)):=s;replace f:c.load j k 1=some [.int .i64 a]:=f;replace g:c.load l m 1=some [.int .i64 b]:=g;have t:am .i64 1=1:=rfl;have u:am .i64 2=2:=rfl;refine erA (n:=18) (rs:=[.tmp 2]) Tryz.e237 ?_;simp only [BZ,Xe,h.lenq,seval];rw [d6];by_cases o:a=0
 . simp only [BZ,d,f,o,t,seval];rw [d6];by_cases p:b=0
   . simp only [BZ,e,g,p,u,seval];rw [d6];simp only [BZ,ab,seval];exact S.gr
   . simp only [BZ,ab,e,g,p,seval];exact S.gr
 . simp only [BZ,ab,d,f,o,seval];exact S.gr
theorem Bv{r:Hp}(u:OZ r){v x D:Nat}{n:Int}(R:ib r v x D cap n l)(s:i<l.length)(t:k<l.length):cj zB 231 [ptrTo v,.int .i64 i,.int .i64 k] r (.bool (decide (hlt (l.getD i default) (l.getD k default)))):=by
 have S:=Si u;obtain⟨F,G,c,f,d,H,C,I,J⟩:=R.ex;have a:=R.row.load1 (o:=0) rfl;have e:=C.ld0 d s;have j:=C.ld1 d s;have m:=C.ld0 d t;have p:=C.ld1 d t;refine erA (n:=44) (rs:=[.tmp 6]) Tryz.e231 ?_;simp only [BZ];refine aw (aA rfl) (q:=17179869184) (ps:=[(16,32),(16,28),(16,24),(16,20)]) (by kernel_rfl) ?_;simp only [BZ,cls,a,s,t,j,p,seval];refine dD (cmp64_ok S.ok) ?_;intro h g;replace S:=S.call g;replace a:=g.load a;replace e:=g.load e;replace j:=g.load j;replace m:=g.load m;replace p:=g.load p;have y:leaves _ _ x=true:=aK g (d.lt u);have z:leaves _ _ v=true:=aK g (R.row.lt u);clear g;simp only [BZ,cls,a,s,t,e,m,seval];refine dD (cmpInt_ok S.ok) ?_;intro K g;replace S:=S.call g;replace a:=g.load a;replace e:=g.load e;replace j:=g.load j;replace m:=g.load m;replace p:=g.load p;clear g;simp only [BZ,cls,seval];refine ey (bE (by exact Tryz.t38.1) (by exact Tryz.e3E) (by decide) (by rfl)) S ?_;clear S;intro h w S A B;simp only [LC,bz,bN,ae,Xk,Xj,Xb,Xp,seval]at S;simp only [BZ,cls,seval];have E:aH h 1 (encI .i64) (.slice (some ⟨w,0,none⟩) 2 2) [cmpI (l.getD i default).key (l.getD k default).key,cmpI (l.getD i default).id (l.getD k default).id]:=.inr ⟨w,0,none,2,rfl,Xx _,S.lds (b:=w) (o:=0) (n:=2*1) m0 (lbt rfl)⟩;refine dD (or2_ok S.ok E) ?_;intro L g;replace S:=S.call g;simp only [BZ,cls,ab,seval];refine⟨by simp only [aT,aZ,aN,a9,aO,ne_eq,not_false_eq_true,bg,bF,aU,aP,bS,ct,ax,XF,ah,aJ y,aJ z,aI y,aI z,seval],?_⟩;have e3:decide ((if cmpI (l.getD i default).key (l.getD k default).key=0 then cmpI (l.getD i default).id (l.getD k default).id else cmpI (l.getD i default).key (l.getD k default).key)<0)=decide (hlt (l.getD i default) (l.getD k default)):=by
  congr 1;rw [eq_iff_iff];unfold cmpI hlt
  repeat' split
  all_goals omega
 exact⟨by rw [e3],S.gr⟩
theorem wo{p:Hp}(ok:OZ p){d g:Nat}{n:Int}(R:ib p y d g cap n l)(u:i<l.length)(r:k<l.length):Ret zB 215 [ptrTo y,.int .i64 i,.int .i64 k] p fun v h'=>Mo (fun c=>c=d\/c=g) p h'/\ib h' y d g cap n (sw l i k):=by
 obtain⟨W,es,c,f,G,hm,C,MI,IF⟩:=R.ex;have S:=St.init2 (M:=fun c=>c=d\/c=g) ok (o1:=.row W 1) (o2:=.map es c) G hm R.ne.2.2 (.inl rfl) (.inr rfl);have F: ¬(y=d\/y=g):=fun h=>h.elim R.ne.1 R.ne.2.1;have H:=R.row.load1 (o:=0) rfl;have r1:=R.row.load1 (o:=1) rfl;have i2:=C.ld2 G u;have k2:=C.ld2 G r;have X:=C.len;have aa:=C.le;refine erA (n:=62) (rs:=[]) Tryz.e215 ?_;simp only [BZ];refine aw (aA rfl) (q:=0) (ps:=[]) (by kernel_rfl) ?_;simp only [BZ,cls,H,u,r,i2,k2,seval];refine dR (S.store (i:=0) rfl Tryz.t322.2.1 (by intro x e;cases e) rfl rfl (by omega) ono) ?_;clear S;rintro h ⟨S,s⟩;clear s;have I:=C.set u (l.getD k default);simp only [LC,ae]at S;have j:=S.old H F;simp only [BZ,cls,r,seval];generalize lay W (i*2) _=J at S I;have ac:=I.len;refine dR (S.store (i:=0) (off:=k*2) rfl Tryz.t322.2.1 (by intro x e;cases e) rfl rfl (by omega) ono) ?_;clear S;rintro h ⟨S,s⟩;clear s;have A:=I.set (i:=k) (by rw [XL];exact r) (l.getD i default);simp only [LC,ae]at S;generalize lay J (k*2) _=t at S A;rw [set_sw]at A;clear j;have j:=S.old H F;have B:=S.old r1 F;have K:i<(sw l i k).length:=by rw [jd];exact u
 have L:k<(sw l i k).length:=by rw [jd];exact r
 have Y:=A.ld0 (S.row m0) K;have Z:=A.ld0 (S.row m0) L;simp only [BZ,seval];refine aw (aA rfl) (q:=0) (ps:=[]) (by kernel_rfl) ?_;simp only [BZ,cls,j,B,u,r,Y,Z,seval];refine ji (P:=fun h' v=> ∃n a m,v=.tuple #[(f ((sw l i k).getD i default).id).getD (.int .i64 0),.int .i64 (Yn n)]/\St (fun c=>c=d\/c=g) p h' [(d,.row t 1),(g,.map a m)] []/\ ∀w,∃b,jI n w a=some b/\fd b m (fH f ((sw l i k).getD i default).id (some w))) ?_ ?_
 . obtain⟨h',n,N,_,a,m,_,e4,e5⟩:=S.mentI (i:=1) (x:=(((sw l i k).getD i default).id:Int)) rfl Tryz.t187.1 Tryz.t3.1 (z:=.int .i64 0) (by kernel_rfl) MI;exact⟨h',_,N,n,a,m,rfl,e4,e5⟩
 clear S Y Z j B;rintro h v ⟨s1,ad,c1,rfl,S,O⟩;obtain⟨b,Q,T⟩:=O (.int .i64 i);simp only [BZ,cls,YJ,seval];refine dR (S.mstoreI (i:=1) rfl Q) ?_;clear S;rintro h ⟨s,S⟩;clear s;simp only [LC]at S;simp only [BZ,cls,seval];refine ji (P:=fun h' v=> ∃n a m,v=.tuple #[(fH f ((sw l i k).getD i default).id (some (.int .i64 i)) ((sw l i k).getD k default).id).getD (.int .i64 0),.int .i64 (Yn n)]/\St (fun c=>c=d\/c=g) p h' [(d,.row t 1),(g,.map a m)] []/\ ∀w,∃b,jI n w a=some b/\fd b m (fH (fH f ((sw l i k).getD i default).id (some (.int .i64 i))) ((sw l i k).getD k default).id (some w))) ?_ ?_
 . obtain⟨h',n,N,_,a,m,_,e4,e5⟩:=S.mentI (i:=1) (x:=(((sw l i k).getD k default).id:Int)) rfl Tryz.t187.1 Tryz.t3.1 (z:=.int .i64 0) (by kernel_rfl) T;exact⟨h',_,N,n,a,m,rfl,e4,e5⟩
 clear S;rintro h v ⟨s2,af,c3,rfl,S,D⟩;obtain⟨U,E,V⟩:=D (.int .i64 k);simp only [BZ,cls,YJ,seval];refine dR (S.mstoreI (i:=1) rfl E) ?_;clear S;rintro h ⟨s,S⟩;clear s;simp only [LC]at S;simp only [BZ,seval];refine⟨S.fr,?_,⟨t,U,c3,_,S.row m0,(S.own _ m1).2,A,V,IF.swap u r⟩,R.ne⟩;rw [jd];exact S.fr.has (o:=.row _ 1) R.row F
theorem up_ok{b:Hp}(u:OZ b){d:Nat}{n:Int}(R:ib b d e j cap n l)(s:i<l.length)(y:l.length<1000000)(U:uk l i):Ret zB 213 [ptrTo d,.int .i64 i] b fun v h'=>Mo (fun c=>c=e\/c=j) b h'/\ ∃l',ib h' d e j cap n l'/\l'.Perm l/\oX l':=by
 refine erA (n:=23) (rs:=[]) Tryz.e213 ?_;simp only [BZ];refine aF (fun(i:Nat) o h=>i<l.length/\Mo (fun c=>c=e\/c=j) b h/\ ∃l',ib h d e j cap n l'/\l'.Perm l/\uk l' i/\o 0=ptrTo d/\o 1=.int .i64 i) (fun i=>i) ?_ i _ _ ?_
 . intro i w o h ⟨s,a,l',R,pm,U,r0,r1⟩;have t:=pm.length_eq;by_cases p:i=0
   . subst p;simp only [BZ,Xe,r1,seval];exact⟨a,l',R,pm,up_done U (.inl rfl)⟩
   . have x:(0:Int)<(i:Int):=(by omega);have q:am .i64 ((i:Int)-1)=((i-1:Nat):Int):=(by rw [wrap64]<;>omega);have r:am .i64 (((i-1:Nat):Int).tdiv 4)=(((i-1)/4:Nat):Int):=(by rw [X6 (by omega),show(((i-1:Nat):Int)/4)=(((i-1)/4:Nat):Int) by omega,wrap64]<;>omega);simp only [BZ,r0,r1,x,q,r,eC (n:=4) (by decide),seval];refine ar (Bv a.ok R (i:=i) (k:=(i-1)/4) (by omega) (by omega)) ?_;intro h g;replace R:=R.gr g;replace a:=a.trans (M':=NoM) g.fr (fun _ h=>h.elim);clear g;by_cases m:hlt (l'.getD i default) (l'.getD ((i-1)/4) default)
     . simp only [BZ,r0,r1,q,r,eC (n:=4) (by decide),m,seval];refine step_ret (wo a.ok R (i:=i) (k:=(i-1)/4) (by omega) (by omega)) ?_;rintro v h ⟨f,R⟩;replace a:=a.trans f (fun _ h=>.inl h);simp only [BZ,r1,q,r,eC (n:=4) (by decide),seval];exact w ((i-1)/4) _ _ (by omega) ⟨by omega,a,_,R,(wL l' (by omega) (by omega)).trans pm,up_step (by omega) U (by omega) m,by simp [ao,r0,ah]⟩
     . simp only [BZ,eC (n:=4) (by decide),m,seval];exact⟨a,l',R,pm,up_done U (.inr (yT m))⟩
 . exact⟨s,Mo.refl u,l,R,.refl _,U,by simp [cy,ah],by simp [cy,cS]⟩
theorem St.monoM(S:St NoM c h L G):St M c h L G:=
 ⟨S.fr.mono (fun _ h=>h.elim),fun p a=>⟨(S.own p a).1.imp (fun h=>h) (fun h=>h.elim),(S.own p a).2⟩,fun p a=>⟨(S.gown p a).1,fun b d=>((S.gown p a).2 b d).imp (fun h=>h) (fun h=>h.elim)⟩,S.apart⟩
theorem below_ok(g:OZ a){f:Nat}:Ret zB 232 [ptrTo f,.int .i64 i] a fun v h'=>Gr a h'/\ ∃b c,v=.func (.func 240) #[] #[ptrTo b,ptrTo c]/\a.n<=b/\a.n<=c/\h'.load b 0 1=some [.int .i64 i]/\h'.load c 0 1=some [ptrTo f]:=by have S:=Si g;refine erA (n:=6) (rs:=[.tmp 4]) Tryz.e232 ?_;simp only [BZ,seval];refine ag (d9 (by exact c6)) S ?_;clear S;intro h c S d;simp only [BZ,if_false,seval];refine ag (d9 (by exact cD)) S ?_;clear S;intro h b S e;simp only [BZ,ab,seval];exact⟨S.gr,b,c,rfl,e,d,S.ld m0 rfl,S.ld m1 rfl⟩
theorem D8(b:OZ d){f g:Nat}{t:Addr}(k:d.load f 0 1=some [.int .i64 i])(u:d.load g 0 1=some [ptrTo o])(hs:d.load o 0 1=some [.slice (some t) n cap])(K:n<1000000)(L:i<1000000):Iter zB 240 [] [ptrTo f,ptrTo g] d (fun c=>c=f\/c=g\/c=o) ((Xa (min 4 (n-(4*i+1)))).map fun j=>[.int .i64 ((4*i+1+j:Nat):Int)]):=by
 refine wH fun C J Z Y h F s p=>?_;refine enA (n:=28) (rs:=[]) Tryz.e240 ?_;have e:=s.load b k (.inl rfl);have q:am .i64 (4*(i:Int))=((4*i:Nat):Int):=by rw [wrap64]<;>omega
 have D:am .i64 (((4*i:Nat):Int)+1)=((4*i+1:Nat):Int):=by rw [wrap64]<;>omega
 have x:am .i64 (((4*i:Nat):Int)+4)=((4*i+4:Nat):Int):=by rw [wrap64]<;>omega
 simp only [BZ,e,q,D,seval];refine aF (fun(j:Nat) l h=>j<=min 4 (n-(4*i+1))/\ ∃F,ItS d (fun c=>c=f\/c=g\/c=o) h F/\J j h F/\l 0=.func (.yield C) #[] #[]/\l 1=ptrTo f/\l 2=ptrTo g/\l 4=.int .i64 ((4*i+1+j:Nat):Int)) (fun j=>min 4 (n-(4*i+1))-j) ?_ 0 _ _ ?_
 . clear e;intro j E l h ⟨hjm,F,s,p,r0,r1,r2,r4⟩;have e:=s.load b k (.inl rfl);have z:=s.load b u (.inr (.inl rfl));have A:=s.load b hs (.inr (.inr rfl));by_cases hlt:j<min 4 (n-(4*i+1))
   . have r:((4*i+1+j:Nat):Int)<=((4*i+4:Nat):Int):=(by omega);have y:4*i+1+j<n:=(by omega);have w:am .i64 (((4*i+1+j:Nat):Int)+1)=((4*i+1+(j+1):Nat):Int):=(by rw [wrap64]<;>omega);simp only [BZ,r0,r1,r2,r4,e,z,A,q,x,r,y,aq,seval];refine ip Y s p (i:=j) (by rw [Xt,Yr hlt];rfl) ?_ ?_ ?_
     . intro B G a H _ _;simp only [BZ,r4,w,seval];exact E (j+1) _ _ (by omega) ⟨by omega,G,H,a,by simp [ao,r0,r1,ah,r2]⟩
     . intro B a _;simp only [BZ,seval];exact iD rfl ⟨rfl,.inr (.inl ⟨_,rfl,a⟩)⟩
     . intro v B a;simp only [BZ];exact cg (cq ⟨rfl,.inr (.inr ⟨_,rfl,a⟩)⟩)
   . have I:j=min 4 (n-(4*i+1)):=(by omega);have m:YQ J Z (min 4 (n-(4*i+1))) (.ret (ab [])) none h:=⟨rfl,.inl ⟨_,F,rfl,by rw [<-I];exact p⟩⟩;by_cases r:((4*i+1+j:Nat):Int)<=((4*i+4:Nat):Int)
     . have y: ¬4*i+1+j<n:=(by omega);simp only [BZ,r1,r2,r4,e,z,A,q,x,r,y,aq,seval];exact dK (cq ⟨rfl,_,rfl,by simpa using m⟩)
     . simp only [BZ,r1,r4,e,q,x,r,seval];exact dK (cq ⟨rfl,_,rfl,by simpa using m⟩)
 . exact⟨by omega,F,s,p,by simp [ao,cC,ah]⟩
theorem down_ok{z:Hp}(ok:OZ z){A C:Nat}{n:Int}(R:ib z u A C cap n l){i:Nat}(E:i<l.length\/(l=[]/\i=0))(hl:l.length<100000)(D:wJ l i):Ret zB 216 [ptrTo u,.int .i64 i] z fun v h'=>Mo (fun c=>c=A\/c=C) z h'/\ ∃l',ib h' u A C cap n l'/\l'.Perm l/\oX l':=by
 have lt:=R.lt ok;have S:=Si ok;have N: ∀{L:List (Nat×Ob)},(∀c∈keys L [],z.n<=c)-> ∀c,c=u\/c=A\/c=C-> ¬c∈keys L []:=fun I c s hm=>by have:=lt c s;have:=I c hm;omega
 refine erA (n:=27) (rs:=[]) Tryz.e216 ?_;simp only [BZ,seval];refine ag ay S ?_;clear S;intro h J S Q;simp only [BZ,seval];refine au (av S (i:=0) rfl ?_ ?_ ?_ ono) ?_
 . exact(by simp only [FA0])
 . exact(by exact jq)
 . exact zO (lbt rfl)
 clear S;rintro h ⟨S,U⟩;clear U;simp only [LC,ae,lay,Xc,Xd,seval]at S;simp only [BZ];have RR:=R.gr S.gr;replace S:=S.monoM (M:=fun c=>c=A\/c=C);refine sH (fun(i:Nat) ρ d h=> ∃(r:List Nat) (l':List Hd),d=r.map sG/\St (fun c=>c=A\/c=C) z h (dV r++[(J,.row [.func (.func 231) #[ptrTo u] #[]] 1)]) []/\(∀c∈keys (dV r++[(J,Ob.row [.func (.func 231) #[ptrTo u] #[]] 1)]) [],z.n<=c)/\
  ib h u A C cap n l'/\l'.Perm l/\wJ l' i/\(i<l.length\/(l=[]/\i=0))/\ρ 0=ptrTo u/\ρ 1=.int .i64 i/\ρ 4=ptrTo J) (fun i=>l.length-i) ?_ i _ _ _ ?_
 . clear S RR R D E i;intro i ih ρ d hS ⟨r,l',hd,S0,I,R,pm,D,E,r0,r1,r4⟩;have aL:=pm.length_eq;have ad:i<1000000:=(by rcases E with E|⟨_,E⟩<;>omega);have S:=S0.base;have Rs:=R;have n0:z.n<=hS.n:=S0.fr.n;simp only [BZ,r1,seval];refine ag ay S ?_;clear S;intro h w S V;simp only [BZ,seval];refine au (av S (i:=0) rfl ?_ ?_ ?_ ono) ?_
   . exact(by simp only [FA0])
   . exact(by exact cD)
   . exact zO (lbt rfl)
   clear S;rintro h ⟨S,U⟩;clear U;simp only [LC,ae,lay,Xc,Xd,seval]at S;simp only [BZ,r0,r1,seval];have gq:=S.fr.n;have a0:=S.key_lt (b:=w) (by simp [keys]);refine step_ret (below_ok S.ok) ?_;intro v h ⟨g,b1,b2,e,n1,n2,q1,q2⟩;replace S:=S.call g;subst e;simp only [BZ];replace R:=R.mo1 S.fr (N I);have gh:=S.fr.n;refine kB S (g:=240) (a:=#[]) (b:=#[ptrTo b1,ptrTo b2]) (by simp [bS,ao,ah]) rfl rfl ?_;intro h2 G O W a1 a2 g2;have kb: ∀c∈keys (dV r++[(J,Ob.row [.func (.func 231) #[ptrTo u] #[]] 1)]) [],c<b1/\c<b2:=fun c s=>(by have:=S0.key_lt s;have:=V;omega);generalize hB:dV r++[(J,Ob.row [.func (.func 231) #[ptrTo u] #[]] 1)]=B at S W S0 I kb;have mf:(J,Ob.row [.func (.func 231) #[ptrTo u] #[]] 1)∈B:=(by rw [<-hB];exact List.mem_append_right _ m0);obtain⟨X,hX,W⟩: ∃X:iu,X=_/\St (· ∈keys B []) hS h2 ((O,.loop X)::(G,.dfr)::(w,.row [.int .i64 (i:Nat)] 1)::B) []:=⟨_,rfl,W⟩;have R2:=R.gr g2;have ch: ∀j,j<min 4 (l'.length-(4*i+1))->4*i+1+j<l'.length/\(4*i+1+j-1)/4=i:=fun j hj=>⟨by omega,by omega⟩;have hY:Yld zB O (fun j h' F=> ∃m:Nat,St (· ∈keys B []) hS h' ((O,.loop X)::(G,.dfr)::(w,.row [.int .i64 (m:Nat)] 1)::B) []/\F=keys ((O,.loop X)::(G,.dfr)::(w,.row [.int .i64 (m:Nat)] 1)::B) []/\
    (m<l'.length\/(l'=[]/\m=i))/\hle (l'.getD m default) (l'.getD i default)/\(∀q,q<j->hle (l'.getD m default) (l'.getD (4*i+1+q) default))/\(m=i\/(0<m/\(m-1)/4=i/\hlt (l'.getD m default) (l'.getD i default)))) (fun _ _=>False) ((Xa (min 4 (l'.length-(4*i+1)))).map fun j=>[.int .i64 ((4*i+1+j:Nat):Int)]):=by
    refine⟨?_,?_,fun _ _ h=>h.elim,?_⟩
    . rintro j h F ⟨m,S,rfl,_⟩;exact⟨S.ok,fun b t=>S.key_lt t⟩
    . rintro j h F h' ⟨m,S,rfl,k⟩ g;exact⟨m,S.call g,rfl,k⟩
    . rintro j x h F hx ⟨m,S,rfl,H,k2,Y,Z⟩;have aa:j<min 4 (l'.length-(4*i+1)):=(by have:=(List.getElem?_eq_some_iff.1 hx).1;simpa using this);rw [Xt,Yr aa]at hx;cases hx;obtain⟨c1,c2⟩:=ch j aa;replace H:=H.resolve_right (by intro e;rw [e.1]at c1;simp at c1);obtain⟨X0,af⟩: ∃x,x=X:=⟨_,rfl⟩;subst hX;refine kw (S.get m0) (by rw [Tryz.e216];rfl) rfl ?_;have S1:=S;replace S:=S.base;simp only [BZ,seval];refine jC S (i:=0) rfl rfl rfl rfl rfl ?_;clear S;intro h S;simp only [LC]at S;have lf:h.load J 0 1=some [.func (.func 231) #[ptrTo u] #[]]:=S.ld (o:=0) (.tail _ (.tail _ (.tail _ mf))) rfl;simp only [BZ,r4,lf,S.ld (b:=w) (o:=0) m2 rfl,seval];have ai: ∀c∈keys ((O,Ob.loop X0)::(G,.dfr)::(w,.row [.int .i64 (m:Nat)] 1)::B) [],z.n<=c:=fun c s=>(S1.key_own s).elim (fun h=>by omega) (fun h=>I c h);clear af;have Rc:ib h u A C cap n l':=(Rs.mo1 S1.fr (N I)).mo1 S.fr (N ai);refine ar (Bv S.ok Rc c1 H) ?_;intro h g;replace S:=S.call g;clear g Rc lf;by_cases P:hlt (l'.getD (4*i+1+j) default) (l'.getD m default)
      . simp only [BZ,P,seval];refine au (av S (i:=2) rfl ?_ ?_ ?_ ono) ?_
        . exact(by simp only [FA0])
        . exact(by exact cD)
        . exact zO (lbt rfl)
        clear S;rintro h ⟨S,U⟩;clear U;simp only [LC,ae,lay,Xc,Xd,seval]at S;simp only [BZ];refine gR S (i:=0) rfl ?_;clear S;intro h S;simp only [LC]at S;refine .inl ⟨rfl,_,⟨4*i+1+j,S1.rebase S,rfl,.inl c1,lS (vq P) k2,fun q hq=>?_,.inr ⟨by omega,c2,?_⟩⟩,S.fr,S.key_new⟩
        . by_cases e:q=j
          . subst e;exact xy _
          . exact lS (vq P) (Y q (by omega))
        . rcases Z with rfl|⟨_,_,Z⟩
          . exact P
          . unfold hlt at*;omega
      . simp only [BZ,P,seval];refine gR S (i:=0) rfl ?_;clear S;intro h S;simp only [LC]at S;refine .inl ⟨rfl,_,⟨m,S1.rebase S,rfl,.inl H,k2,fun q hq=>?_,Z⟩,S.fr,S.key_new⟩;by_cases e:q=j
        . subst e;exact yT P
        . exact Y q (by omega)
   refine dZ (CH (D8 S.ok q1 q2 (R.row.load1 (o:=0) rfl) (by omega) ad) hY (h:=h2) (F:=keys ((O,.loop X)::(G,.dfr)::(w,.row [.int .i64 (i:Nat)] 1)::B) []) g2.fr (fun b t hlt=>?_) ⟨i,W,rfl,?_,xy _,fun q hq=>by omega,.inl rfl⟩) fun o rc h' y=>qs y ?_
   . have e1:=W.key_own t;rintro(rfl|rfl|rfl)
     . rcases List.mem_cons.1 t with e|t
       . omega
       . rcases List.mem_cons.1 t with e|t
         . omega
         . rcases List.mem_cons.1 t with e|t
           . simp only []at e;omega
           . have:=(kb _ t).1;omega
     . rcases List.mem_cons.1 t with e|t
       . omega
       . rcases List.mem_cons.1 t with e|t
         . omega
         . rcases List.mem_cons.1 t with e|t
           . simp only []at e;omega
           . have:=(kb _ t).2;omega
     . have:=lt b (.inl rfl);rcases e1 with e1|e1
       . omega
       . have:=I b e1;omega
   . rcases E with E|⟨E,_⟩
     . exact .inl (by omega)
     . right;rw [E]at pm;exact⟨pm.eq_nil,rfl⟩
   . rintro F ⟨m,T,rfl,H,k2,Y,Z⟩;rw [List.length_map,List.length_range]at Y;subst hX;refine⟨_,T.get m0,Nat.zero_ne_one,?_⟩;replace T:=T.dead;show Run _ _ _ _ _ _ _ _;have p:=T.ld (b:=w) (o:=0) m1 rfl;have Rc:ib _ u A C cap n l':=Rs.mo1 T.fr (N I);have km: ∀q,0<q->q<l'.length->(q-1)/4=i->hle (l'.getD m default) (l'.getD q default):=fun q q0 ql qe=>(by have:=Y (q-(4*i+1)) (by omega);rwa [show 4*i+1+(q-(4*i+1))=q by omega]at this);have T0:=S0.rebase T;have ac: ∀c∈keys ((G,Ob.dfr)::(w,.row [.int .i64 (m:Nat)] 1)::B) [],z.n<=c:=fun c s=>(T.key_own s).elim (fun h=>by omega) (fun h=>I c h);subst hd hB;have T2:=T0.sub (L':=dV (G::r)++[(J,Ob.row [.func (.func 231) #[ptrTo u] #[]] 1)]) (G':=[]) (List.Sublist.cons_cons _ (List.sublist_cons_self _ _)) (List.Sublist.refl _);have K: ∀c∈keys (dV (G::r)++[(J,Ob.row [.func (.func 231) #[ptrTo u] #[]] 1)]) [],z.n<=c:=fun c s=>ac c (by simp only [keys,Yt,Xw,dV,XM,Yj,XP]at s⊢;rcases s with h|h;exact .inl h;exact .inr (.inr h));by_cases e:m=i
     . subst e;simp only [BZ,r1,p,seval];have T3:=T2.base;refine hU (g9 (G::r) _ T3 fun h' T4=>⟨rfl,_,rfl,?_⟩);refine⟨(T2.fr.trans T4.fr fun c s=>(T2.key_own s).symm),l',Rc.mo1 T4.fr (N K),pm,dn_done D km⟩
     . have e': ¬((m:Int)=(i:Int)):=(by omega);obtain⟨b0,be,ak⟩:=Z.resolve_left e;replace H:=H.resolve_right (fun h=>e h.2);simp only [BZ,r0,r1,p,e',seval];refine step_ret (wo T2.ok Rc (i:=i) (k:=m) (by omega) H) ?_;rintro v h ⟨f,Rn⟩;have al:=N K;have T3:=T2.step f (fun c s=>.inl s) (fun c s hM=>al c (.inr hM) s);have f2:Mo (fun c=>c=A\/c=C) _ h:=f;have an:h.load w 0 1=some [.int .i64 (m:Nat)]:=(by have a3:z.n<=w:=ac w (.tail _ m0);have:=f.get w (bU f.ok0 p) (fun hM=>by have:=lt w (.inr hM);omega);unfold Hp.load at p⊢;rw [this];exact p);simp only [BZ,an,seval];exact ih m _ _ _ (by omega) ⟨G::r,_,rfl,T3,K,Rn,(wL l' (by omega) H).trans pm,dn_step D b0 H be ak km,.inl (by omega),by simp [ao,r0,ah,r4]⟩
 . exact⟨[],l,rfl,S,fun c s=>by simp [keys,dV]at s;subst s;exact Q,RR,.refl _,D,E,by simp [ao,cy,ah,cS]⟩
theorem mw.push{f:Int->Option Value}(h:mw f l){x:Hd}(c:x.id∉l.map Hd.id):mw (fH f x.id (some (.int .i64 l.length))) (l++[x]):=by
 refine⟨fun i b=>?_,fun y v a=>?_⟩
 . unfold fH;simp at b;by_cases e:i=l.length
   . grind
   . rw [qd l _ (by omega),if_neg ?_]
     . exact h.1 i (by omega)
     grind
 . unfold fH at a;by_cases e:y=x.id
   . refine⟨l.length,by simp,?_⟩;grind
   . rw [if_neg e]at a;obtain⟨i,b,d⟩:=h.2 y v a;exact⟨i,by simp;omega,by grind⟩
theorem mw.cut{f:Int->Option Value}(h:mw f l)(c:l.length=m+1):mw (fH f (l.getD m default).id none) (l.take m):=by
 refine⟨fun i b=>?_,fun y v a=>?_⟩
 . rw [Xo]at b;rw [getD_take l (by omega)];unfold fH;rw [if_neg ?_]
   . exact h.1 i (by omega)
   . intro e;have:=h.inj (i:=i) (j:=m) (by omega) (by omega) (by omega);omega
 . unfold fH at a;by_cases e:y=(l.getD m default).id
   . grind
   . rw [if_neg e]at a;obtain⟨i,b,d⟩:=h.2 y v a;have:i≠m:=fun e3=>(by grind);exact⟨i,by grind,by grind⟩
theorem mw.setKey{f:Int->Option Value}(h:mw f l)(k:Int):mw f (l.set i ⟨(l.getD i default).id,k⟩):=by
 have e: ∀j,((l.set i ⟨(l.getD i default).id,k⟩).getD j default).id=(l.getD j default).id:=fun j=>by grind
 refine⟨fun j a=>?_,fun y v b=>?_⟩
 . rw [e];exact h.1 j (by grind)
 . obtain⟨j,a,c⟩:=h.2 y v b;grind
theorem idxF_nil:mw (fun _=>none) []:=⟨fun i a=>by simp at a,fun x v h=>by cases h⟩
theorem fk.take{cs:List Value}{cap:Nat}{l:List Hd}(c:fk cs cap l)(m:Nat):fk cs cap (l.take m):=
 ⟨c.len,Xl (by grind) c.le,fun i a=>by
  rw [Xo]at a;rw [getD_take l (by omega)];exact c.at0 i (by omega)⟩
theorem fk.push{a:List Value}{cap':Nat}(c:fk cs cap l){x:Hd}(d:a.length=cap'*2)(g:l.length<cap')(b: ∀j,j<l.length*2->a[j]? =cs[j]?)(h:a[l.length*2]? =some (.int .i64 x.id)/\a[l.length*2+1]? =some (.int .i64 x.key)):fk a cap' (l++[x]):=by
 refine⟨d,by simp;omega,fun i f=>?_⟩;simp at f;by_cases e:i=l.length
 . grind
 . rw [qd l _ (by omega),b _ (by omega),b _ (by omega)];exact c.at0 i (by omega)
theorem slice_hi{t e:TypeId}{len:Nat}(c:E.und t=some (.slice e))(hs:E.sz e=some k)(d:n<=cap):cK E t (.slice (some ⟨b,0,some k⟩) len cap) none (some (.int kd (n:Int))) none=some (.slice (some ⟨b,0,some k⟩) n cap):=by have a: ∀n:Nat,fI (n:Int)=some n:=fun n=>rfl;simp_all[cK,dE,ef,Xh,cond_true,Xr,cond_false,Yq]
section
variable{M:Nat->Prop}{h0 h:Hp}{L:List (Nat×Ob)}{G:List GL}{E:Env}{t tx e:TypeId}{by_:Nat}{zs:List Value}
theorem St.appH{d:Nat}(S:St M h0 h ((d,.row cs 1)::L) G)(C:fk cs cap l)(F:E.und t=some (.slice e))(H:ec E e by_ 2 zs)(Q:0<by_)(I:by_<=100)(r:eK E tx=some false){x:Hd}(f:aD h 2 z=some (1,nL x))(R:l.length<1000000){ts:List TypeId}:
 ∃h' w,du E h (t::tx::ts) (.slice (some ⟨d,0,some 2⟩) l.length cap) z=some (h',w)/\ ∃a cap' g,w=.slice (some ⟨a,0,some 2⟩) (l.length+1) cap'/\St M h0 h' ((a,.row g 1)::L) G/\fk g cap' (l++[x])/\(a=d\/h.n<=a):=by
 obtain⟨⟨i,J,rfl,c⟩,K,s⟩:=H;have A:Row h d cs 1:=S.row m0;have B:=C.len;by_cases U:l.length+1<=cap
 . obtain⟨y,V,N⟩:=A.store S.ok ono (o:=l.length*2) (vs:=nL x) (by rw [lU];omega) rfl;refine⟨h.put d y,_,?_,d,cap,_,rfl,S.put (i:=0) rfl N,?_,.inl rfl⟩
   . simp_all[du,jx,fS,Xh,cond_true,nL,Xj]
   . refine C.push (by grind[q9,lU]) (by omega) (fun j O=>?_) ⟨?_,?_⟩
     . rw [kY (by rw [lU];omega),if_neg (by omega)]
     . rw [kY (by rw [lU];omega),if_pos ⟨Xx _,by rw [lU];omega⟩,YO];rfl
     . rw [kY (by rw [lU];omega),if_pos ⟨by omega,by rw [lU];omega⟩,YD];rfl
 . have D:cap=l.length:=(by have:=C.le;omega);obtain⟨q,W,k,m,P⟩:=A;have u:jz q cs.length 0 (l.length*2) (nL x)=some (q.pushAll cs.length (nL x),cs.length+2):=(by unfold jz;rw [show l.length*2=cs.length by omega,Yw,Yw];rfl);have T:=S.dead.new (x:=.cells (q.pushAll cs.length (nL x)) (cs.length+2) e 1) (o:=.row (cs++nL x) 1) (by
    refine⟨q.pushAll cs.length (nL x),e,?_,?_,fun n=>?_⟩
    . rw [Hp.get_new _ _ S.dead.ok,if_pos rfl,Xf];rfl
    . rw [Xf];exact Tr.sized_pushAll _ m
    grind[Tr.get_pushAll])
   refine⟨_,.slice (some ⟨h.n,0,some 2⟩) (l.length+1) (l.length+1),?_,h.n,l.length+1,_,rfl,T,?_,.inr (Xx _)⟩
   . simp only [du,r,jx,F,J,c,f];unfold fS;have p:Yd (l.length+1) cap=false:=by
      cases r:Yd (l.length+1) cap with
      |false=>rfl|true=>exact absurd (lbt r) (by omega)
     rw [p];simp only [cond_false];have b:(Yd ((l.length+1)*(i.bytes+1)) 70368744177664&&Ye 0 i.bytes)=true:=(by have:(l.length+1)*(i.bytes+1)<=1000000*101:=Nat.mul_le_mul (by omega) (by omega);rw [Xh (by omega)];simp_all);have v:XY zs.length i.size=true:=(by rw [s,c];rfl);rw [b,K];simp only [cond_true,v];unfold oH;simp only [k,c,u];rfl
   . refine C.push (by rw [Xf,lU];omega) (by omega) (fun j O=>?_) ⟨?_,?_⟩
     . grind
     . rw [Xq (by omega),show l.length*2-cs.length=0 by omega];rfl
     . rw [Xq (by omega),show l.length*2+1-cs.length=1 by omega];rfl
theorem St.appH0(S:St M h0 h L G)(n:E.und t=some (.slice e))(p:ec E e by_ 2 zs)(u:0<by_)(q:by_<=100)(r:eK E tx=some false){x:Hd}{m:Value}(d:aD h 2 m=some (1,nL x)){ts:List TypeId}:
 ∃h' w,du E h (t::tx::ts) (.slice none 0 0) m=some (h',w)/\ ∃b cap' f,w=.slice (some ⟨b,0,some 2⟩) 1 cap'/\St M h0 h' ((b,.row f 1)::L) G/\fk f cap' [x]/\h.n<=b:=by
 obtain⟨⟨i,j,rfl,c⟩,s,k⟩:=p;have T:=S.new (x:=.cells (Tr.ofList (nL x)) 2 e 1) (o:=.row (nL x) 1) (n9 S.ok (nL x) e 1);refine⟨_,.slice (some ⟨h.n,0,some 2⟩) 1 1,?_,h.n,1,_,rfl,T,⟨rfl,by simp,fun i j=>?_⟩,Xx _⟩
 . simp only [du,r,jx,n,j,c,d];unfold fS;have g:Yd (0+1) 0=false:=rfl;rw [g];simp only [cond_false];have a:(Yd ((0+1)*(i.bytes+1)) 70368744177664&&Ye 0 i.bytes)=true:=(by rw [Xh (by omega)];simp_all);have l:XY zs.length i.size=true:=(by rw [k,c];rfl);rw [a,s];simp only [cond_true,l];unfold oH;rw [show XY 0 0=true from rfl,c];rfl
 . have:i=0:=(by simpa using j);subst this;exact⟨rfl,rfl⟩
theorem St.rowS{d c:Nat}{N:Int}{g:List (Value×Value×Nat)}{f:Int->Option Value}(S:St M h0 h [(b,.row cs 1),(i,.row [.slice (some ⟨b,0,some 2⟩) n cap,.map (some d),.int .i64 N] 1),(d,.map g c)] [])(C:fk cs cap l)(j:n=l.length)(k:fd g c f)(m:mw f l):ib h i b d cap N l:=by subst j;have a:=S.apart;simp only [keys,XM,Yv,Yt,Xw,Yb,XP,X2,or_false,not_or]at a;exact⟨S.row m1,⟨cs,g,c,f,S.row m0,(S.own _ m2).2,C,k,m⟩,fun e=>a.1.1 e.symm,a.2.1,a.1.2⟩
end
theorem qT{b:Bool}{t:TypeId}{a v:Operand}:dq ρ b (.store t a v) h h'=(match ρ a with| .pointer (some a)=>some (.blk a.block)|_=>none):=by simp only [dq,eo,lV,gU,touch,cond_false];grind
theorem uz{b:Bool}{x:Operand}{ts:Array TypeId}:dq ρ b (.call ⟨.builtin .len,#[x],ts⟩) h h'=(match ρ x with| .map (some r)=>some (.blk r)| .slice (some a) _ _=>some (.blk a.block)|_=>none):=by simp only [dq,eo,lV,gU,touch,cond_false];grind
theorem dn_del{Q:dW}{a:List Oper}{q:Nat}{o:Oper}{k:List Fr}{l:Loc}{c:Hp->List (Nat×Tch)}{t:TypeId}{m b:Value}{P:Hp->Prop}(d: ∃h',oz E h t m b=some h'/\P h')(f: ∀h',P h'->Run E (lim E) cx Q (.opsD a q ps os (i+1) (c h')::k) .normal (l.put o.dst (.tuple #[])) h'):DN E cx Q a q ps o os i k l c (delR E h t m b):=by
 obtain⟨h',e,g⟩:=d;unfold delR;rw [e];exact f h' g
structure fh(h:Hp)(F:List Nat)(p:Value)(N:Nat)(K:Nat->Option Int):Prop where
 ex: ∃bh bm l,p=ptrTo bh/\oX l/\jf l K/\(∀x∈l,x.id<N)/\
  ((l=[]/\F=[bh,bm]/\bh≠bm/\Row h bh [.slice none 0 0,.map (some bm),.int .i64 N] 1/\ ∃es c,h.get bm=some (.map es c)/\fd es c (fun _=>none))\/ ∃bl cap,F=[bh,bl,bm]/\ib h bh bl bm cap N l)
theorem fh.mo{M:Nat->Prop}{h h':Hp}{F:List Nat}{p:Value}{N:Nat}{K:Nat->Option Int}(a:fh h F p N K)(g:Mo M h h')(d: ∀b∈F,¬M b):fh h' F p N K:=by
 obtain⟨j,m,l,e,n,q,r,s⟩:=a.ex;refine⟨j,m,l,e,n,q,r,?_⟩;rcases s with⟨t,rfl,u,v,i,c,w,x⟩|⟨y,f,rfl,k⟩
 . exact .inl ⟨t,rfl,u,g.has (o:=.row _ 1) v (d _ (by simp)),i,c,g.has (o:=.map i c) w (d _ (by simp)),x⟩
 . exact .inr ⟨y,f,rfl,k.mo g (d _ (by simp)) (d _ (by simp)) (d _ (by simp))⟩
theorem fh.gr(a:fh h F p N K)(g:Gr h h'):fh h' F p N K:=a.mo (M:=NoM) g.fr (fun _ _ h=>h)
theorem fh.lt{h:Hp}(f:OZ h){F:List Nat}{p:Value}{N:Nat}{K:Nat->Option Int}(a:fh h F p N K): ∀b∈F,b<h.n:=by
 obtain⟨n,o,l,e,q,r,s,g⟩:=a.ex;rcases g with⟨t,rfl,u,i,v,c,j,w⟩|⟨x,m,rfl,k⟩
 . intro b d;simp at d;rcases d with rfl|rfl
   . exact i.lt f
   . exact iV f j
 . intro b d;simp at d;exact k.lt f b d
theorem xP(h:jf l K)(a: ∀x∈l,x.id<N):l.length<=N:=by have:=xB N (l.map Hd.id) h.1 (fun x b=>by grind);simpa using this
theorem EJ(l:OZ a):Ret zB 173 [.int .i64 N] a fun v h'=>Gr a h'/\ ∃F,fh h' F v N (fun _=>none)/\ ∀b∈F,a.n<=b:=by
 have S:=Si l;have m:max (N:Int) 0=(N:Int):=by omega
 refine erA (n:=9) (rs:=[.tmp 2]) Tryz.e173 ?_;simp only [BZ];refine ag wI S ?_;clear S;intro h g S d;simp only [BZ,m,seval];refine ag (bG (by intro x e;cases e)) S ?_;clear S;intro h b S f;simp only [ae]at S;simp only [BZ,ab,seval];have i:=S.apart;simp only [keys,XM,Yv,Yt,Xw,Yb,XP,X2,or_false]at i;refine⟨S.gr,[b,g],⟨b,g,[],rfl,fun j _ o=>(by simp at o),cont_nil,fun x p=>(by cases p),.inl ⟨rfl,rfl,i.1,S.row m0,[],0,(S.own _ m1).2,xO⟩⟩,fun c k=>?_⟩;simp at k;rcases k with rfl|rfl
 . exact f
 . exact d
section
variable{h0:Hp}{F:List Nat}{p:Value}{N:Nat}{K:Nat->Option Int}
theorem yC(f:OZ h0)(H:fh h0 F p N K): ∃m:Nat,cj zB 214 [p] h0 (.int .i64 m)/\(m=0↔ ∀v,K v=none):=by
 obtain⟨g,q,l,rfl,r,d,s,h⟩:=H.ex;refine⟨l.length,?_,?_⟩
 . have S:=Si f;obtain⟨a,n,c,m1,m2,b,i⟩: ∃a n c m1 m2,Row h0 g [.slice a n c,m1,m2] 1/\n=l.length:=by
    rcases h with⟨rfl,_,_,b,_⟩|⟨t,j,_,b⟩
    . exact⟨_,_,_,_,_,b,rfl⟩
    . exact⟨_,_,_,_,_,b.row,rfl⟩
   subst i;have k:=b.load1 (o:=0) rfl;refine erA (n:=11) (rs:=[.tmp 2]) Tryz.e214 ?_;simp only [BZ,ab,k,seval];exact S.gr
 . constructor
   . intro e;rw [List.length_eq_zero_iff.1 e]at d;exact d.nil
   . intro e;cases l with
     |nil=>rfl| cons x l=>
       have:=(d.2 x.id x.key).2 (by simp);rw [e]at this;cases this
theorem DY(y:OZ h0)(H:fh h0 F p N K){v:Nat}:cj zB 218 [p,.int .i64 v] h0 (.tuple #[.int .i64 ((K v).getD 0),.bool (K v).isSome]):=by
 have S:=Si y;obtain⟨m,a,A⟩:=yC y H;obtain⟨O,P,l,rfl,Q,r,T,I⟩:=H.ex;by_cases b:m=0
 . subst b;have e:=A.1 rfl v;rw [e];refine erA (n:=32) (rs:=[.tmp 4,.tmp 5]) Tryz.e218 ?_;simp only [BZ,seval];refine ar (a) ?_;intro h g;replace S:=S.call g;simp only [BZ,ab,Xe,seval];exact⟨rfl,S.gr⟩
 . have d: ¬((m:Int)=0):=(by omega);rcases I with⟨rfl,_⟩|⟨U,J,_,R⟩
   . exact absurd (A.2 r.nil) b
   . refine erA (n:=32) (rs:=[.tmp 4,.tmp 5]) Tryz.e218 ?_;simp only [BZ,seval];refine ar (a) ?_;intro h g;replace S:=S.call g;replace R:=R.gr g;clear g;obtain⟨V,W,c,f,s,t,C,L,B⟩:=R.ex;have M:=R.row.load1 (o:=0) rfl;have D:=R.row.load1 (o:=1) rfl;have q:=uf (x:=(v:Int)) Tryz.t187.1 Tryz.t3.1 (z:=.int .i64 0) (by kernel_rfl) t L;cases E:K v with
     | none=>
       have u:f v=none:=by
        cases hf:f v with
        |none=>rfl| some w=>
          obtain⟨i,j,e⟩:=B.2 v w hf;have:=r.at j;rw [show(l.getD i default).id=v by omega,E]at this;cases this
       rw [u]at q;simp only [BZ,ab,d,D,q,Yx,Xr,seval];exact S.gr
     | some k=>
       obtain⟨i,j,e⟩:=r.idx E;have u:f v=some (.int .i64 i):=(by have:=B.1 i j;rwa [e]at this);rw [u]at q;have G:=C.ld1 s j;rw [e]at G;simp only [BZ,ab,d,M,D,q,XG,j,G,seval];exact S.gr
theorem xc(ok:OZ h0)(H:fh h0 F p N K){v:Nat}(hv:v<N)(hN:N<=1000)(P:K v=none){k:Int}:Ret zB 176 [p,.int .i64 v,.int .i64 k] h0 fun r h'=>Mo (· ∈F) h0 h'/\ ∃F',fh h' F' p N (gw K v (some k))/\ ∀b∈F',b∈F\/h0.n<=b:=by
 obtain⟨a,s,l,rfl,ho,m,hlt,D⟩:=H.ex;have ac:=xP m hlt;have c1: ¬((v:Int)<0):=by omega
 have c2: ¬((N:Int)<=(v:Int)):=by omega
 have hn:=m.free P;rcases D with⟨rfl,rfl,T,hr,U,c,g,E⟩|⟨G,u,rfl,R⟩
 . have S:=St.init2 (M:=(· ∈[a,s])) ok (o1:=.row _ 1) (o2:=.map U c) hr g T (by simp) (by simp);have Q:=uf (x:=(v:Int)) Tryz.t187.1 Tryz.t3.1 (z:=.int .i64 0) (by kernel_rfl) g E;refine erA (n:=71) (rs:=[.tmp 6]) Tryz.e176 ?_;simp only [BZ,Q,c1,c2,Yx,Xr,S.ld (b:=a) (o:=1) m0 rfl,S.ld (b:=a) (o:=2) m0 rfl,seval];refine aw (aA rfl) (q:=0) (ps:=[]) (by kernel_rfl) ?_;simp only [BZ,cls,Xe,S.ld (b:=a) (o:=0) m0 rfl,S.ld (b:=a) (o:=1) m0 rfl,seval];refine dR (S.mputI (i:=1) rfl Tryz.t187.1 Tryz.t3.1 E _) ?_;clear S;rintro h ⟨_,V,c',y,S⟩;simp only [LC]at S;simp only [BZ,S.ld (b:=a) (o:=0) m0 rfl,S.ld (b:=a) (o:=1) m0 rfl,seval];refine ag (bE (by exact Tryz.t314.1) (by exact Tryz.e322E) (by decide) (by rfl)) S ?_;clear S;intro h I S J;simp only [LC,bz,bN,ae,Xk,Xj,Xb,Xp,seval]at S;simp only [BZ,S.ld (b:=a) (o:=0) m1 rfl,S.ld (b:=a) (o:=1) m1 rfl,seval];have j:aD h 2 (.slice (some ⟨I,0,none⟩) 1 1)=some (1,nL ⟨v,k⟩):=(by simp only [aD];rw [S.lds (b:=I) (o:=0) (n:=1*2) m0 (lbt rfl)];rfl);replace S:=S.drop1;refine dc (S.appH0 Tryz.t314.1 Tryz.e322E (by decide) (by decide) Tryz.t314.2.2.2.2.2 j) ?_;clear S j;rintro h w ⟨G,u,cs,rfl,S,C,W⟩;simp only [BZ,seval];refine au (av S (i:=1) rfl ?_ ?_ ?_ ono) ?_
   . exact(by simp only [FA0])
   . exact(by exact bJ)
   . exact zO (lbt rfl)
   clear S;rintro h ⟨S,X⟩;clear X;simp only [LC,ae,lay,Xc,Xd,seval]at S;simp only [BZ];refine aw (aA rfl) (q:=0) (ps:=[]) (by kernel_rfl) ?_;simp only [BZ,cls,Xe,S.ld (b:=a) (o:=0) m1 rfl,S.ld (b:=a) (o:=1) m1 rfl,seval];have R:ib h a G s u N ([]++[⟨v,k⟩]):=S.rowS C rfl y (idxF_nil.push hn);have Y:am .i64 0=((0:Nat):Int):=rfl;rw [Y];refine cI (up_ok S.ok R (i:=0) (by simp) (by simp) (Ap ho ⟨v,k⟩)) ?_;have d:=(S.own _ m0).1;rintro r h ⟨f,Z,R',L,A⟩;simp only [BZ,Xe,seval];refine⟨S.fr.trans f (fun c m=>?_),[a,G,s],⟨a,s,Z,rfl,A,(m.push P k).perm L,fun x D=>?_,.inr ⟨G,u,rfl,R'⟩⟩,fun b O=>?_⟩
   . rcases m with rfl|rfl
     . exact d.symm
     . exact .inl (by simp)
   . have:=L.mem_iff.1 D;simp at this;subst this;exact hv
   . simp at O;rcases O with rfl|rfl|rfl
     . exact .inl (by simp)
     . exact d.symm
     . exact .inl (by simp)
 . obtain⟨cs,U,c,f,aa,g,C,E,IF⟩:=R.ex;have S:=St.init3 (M:=(· ∈[a,G,s])) ok (o1:=.row cs 1) (o2:=.row _ 1) (o3:=.map U c) aa R.row g R.ne.1.symm R.ne.2.2 R.ne.2.1 (by simp) (by simp) (by simp);have Q:=uf (x:=(v:Int)) Tryz.t187.1 Tryz.t3.1 (z:=.int .i64 0) (by kernel_rfl) g E;have fv:f v=none:=by
    cases hf:f v with
    |none=>rfl| some w=>
      obtain⟨i,hi,e⟩:=IF.2 v w hf;have:=m.at hi;rw [show(l.getD i default).id=v by omega,P]at this;cases this
   rw [fv]at Q;refine erA (n:=71) (rs:=[.tmp 6]) Tryz.e176 ?_;simp only [BZ,Q,c1,c2,Yx,Xr,S.ld (b:=a) (o:=1) m1 rfl,S.ld (b:=a) (o:=2) m1 rfl,seval];refine aw (aA rfl) (q:=0) (ps:=[]) (by kernel_rfl) ?_;simp only [BZ,cls,S.ld (b:=a) (o:=0) m1 rfl,S.ld (b:=a) (o:=1) m1 rfl,seval];refine dR (S.mputI (i:=2) rfl Tryz.t187.1 Tryz.t3.1 E _) ?_;clear S;rintro h ⟨_,V,c',y,S⟩;simp only [LC]at S;simp only [BZ,S.ld (b:=a) (o:=0) m1 rfl,S.ld (b:=a) (o:=1) m1 rfl,seval];refine ag (bE (by exact Tryz.t314.1) (by exact Tryz.e322E) (by decide) (by rfl)) S ?_;clear S;intro h I S J;simp only [LC,bz,bN,ae,Xk,Xj,Xb,Xp,seval]at S;simp only [BZ,S.ld (b:=a) (o:=0) m2 rfl,S.ld (b:=a) (o:=1) m2 rfl,seval];have j:aD h 2 (.slice (some ⟨I,0,none⟩) 1 1)=some (1,nL ⟨v,k⟩):=(by simp only [aD];rw [S.lds (b:=I) (o:=0) (n:=1*2) m0 (lbt rfl)];rfl);replace S:=S.drop1;refine dc (S.appH C Tryz.t314.1 Tryz.e322E (by decide) (by decide) Tryz.t314.2.2.2.2.2 j (by omega)) ?_;clear S j;rintro h w ⟨B,t,ad,rfl,S,C',W⟩;simp only [BZ,seval];refine au (av S (i:=1) rfl ?_ ?_ ?_ ono) ?_
   . exact(by simp only [FA0])
   . exact(by exact bJ)
   . exact zO (lbt rfl)
   clear S;rintro h ⟨S,X⟩;clear X;simp only [LC,ae,lay,Xc,Xd,seval]at S;simp only [BZ];refine aw (aA rfl) (q:=0) (ps:=[]) (by kernel_rfl) ?_;have Y:am .i64 (((l.length+1:Nat):Int)-1)=((l.length:Nat):Int):=(by rw [wrap64]<;>omega);simp only [BZ,cls,Y,S.ld (b:=a) (o:=0) m1 rfl,S.ld (b:=a) (o:=1) m1 rfl,seval];have R:ib h a B s t N (l++[⟨v,k⟩]):=S.rowS C' (by simp) y (IF.push hn);refine cI (up_ok S.ok R (i:=l.length) (by simp) (by simp;omega) (Ap ho ⟨v,k⟩)) ?_;have d:=(S.own _ m0).1;rintro r h ⟨f,Z,R',L,A⟩;simp only [BZ,seval];refine⟨S.fr.trans f (fun c m=>?_),[a,B,s],⟨a,s,Z,rfl,A,(m.push P k).perm L,fun x D=>?_,.inr ⟨B,t,rfl,R'⟩⟩,fun b O=>?_⟩
   . rcases m with rfl|rfl
     . exact d.symm
     . exact .inl (by simp)
   . have:=L.mem_iff.1 D;simp at this;rcases this with h|rfl
     . exact hlt x h
     . exact hv
   . simp at O;rcases O with rfl|rfl|rfl
     . exact .inl (by simp)
     . exact d.symm
     . exact .inl (by simp)
theorem CQ(T:OZ h0)(H:fh h0 F p N K){v:Nat}(hN:N<=1000){t k:Int}(U:K v=some t)(hle:k<=t):Ret zB 219 [p,.int .i64 v,.int .i64 k] h0 fun r h'=>Mo (· ∈F) h0 h'/\fh h' F p N (gw K v (some k)):=by
 obtain⟨d,w,l,rfl,V,g,hlt,y⟩:=H.ex;have W:=xP g hlt;obtain⟨i,a,u⟩:=g.idx U;have X:v<N:=by have:=hlt (l.getD i default) (by rw [Xg,Xn a];exact XH a);rwa [u]at this
 have Y: ¬((v:Int)<0):=by omega
 have Z: ¬((N:Int)<=(v:Int)):=by omega
 have c3: ¬(t<k):=by omega
 rcases y with⟨rfl,_⟩|⟨A,j,rfl,R⟩
 . simp at a
 . obtain⟨G,es,c,f,m,q,C,I,J⟩:=R.ex;have S:=St.init3 (M:=(· ∈[d,A,w])) T (o1:=.row G 1) (o2:=.row _ 1) (o3:=.map es c) m R.row q R.ne.1.symm R.ne.2.2 R.ne.2.1 (by simp) (by simp) (by simp);have L:=uf (x:=(v:Int)) Tryz.t187.1 Tryz.t3.1 (z:=.int .i64 0) (by kernel_rfl) q I;have fv:f v=some (.int .i64 i):=(by have:=J.1 i a;rwa [u]at this);rw [fv]at L;have O:=C.ld1 m a;have P:=C.len;have aa:=C.le;have ek:(l.getD i default).key=t:=(by rw [u]);have B:(l.getD i default).id=v:=(by rw [u]);rw [ek]at O;refine erA (n:=61) (rs:=[.tmp 6]) Tryz.e219 ?_;simp only [BZ,L,Y,Z,c3,a,O,XG,S.ld (b:=d) (o:=0) m1 rfl,S.ld (b:=d) (o:=1) m1 rfl,S.ld (b:=d) (o:=2) m1 rfl,seval];refine au (S.store (i:=0) (off:=i*2+1) rfl Tryz.t2.2.2.1 (by intro x e;cases e) rfl rfl (by omega) ono) ?_;clear S;rintro h ⟨S,_⟩;simp only [LC,ae]at S;have Q:=C.setKey a k;generalize lay G (i*2+1) _=ac at S Q;simp only [BZ,S.ld (b:=d) (o:=0) m1 rfl,S.ld (b:=d) (o:=1) m1 rfl,seval];have R1:ib h d A w j N (l.set i ⟨(l.getD i default).id,k⟩):=S.rowS Q (by rw [XL]) I (J.setKey k);refine step_ret (up_ok S.ok R1 (i:=i) (by rw [XL];exact a) (by rw [XL];omega) (EL V (by unfold Ab.hle;simp only [];omega))) ?_;rintro r h ⟨f,l',R',D,E⟩;simp only [BZ,seval];have s:=g.lower a k;rw [B]at s;refine⟨S.fr.trans f (fun c g=>?_),⟨d,w,l',rfl,E,(by rw [B]at D;exact s.perm D),fun x y=>?_,.inr ⟨A,j,rfl,R'⟩⟩⟩
   . rcases g with rfl|rfl<;>exact .inl (by simp)
   . have:=D.mem_iff.1 y;rcases List.mem_or_eq_of_mem_set this with h|rfl
     . exact hlt x h
     . rw [B];exact X
end
section
variable{h0:Hp}{F:List Nat}{p:Value}{N:Nat}{K:Nat->Option Int}
theorem D6(ok:OZ h0)(H:fh h0 F p N K)(hN:N<=1000):Ret zB 177 [p] h0 fun r h'=>(r=.tuple #[.int .i64 0,.int .i64 0,.bool false]/\(∀v,K v=none)/\Gr h0 h')\/ ∃v k,r=.tuple #[.int .i64 (v:Nat),.int .i64 k,.bool true]/\K v=some k/\(∀u k',K u=some k'->k<k'\/(k=k'/\v<=u))/\Mo (· ∈F) h0 h'/\fh h' F p N (gw K v none):=by
 obtain⟨m,B,O⟩:=yC ok H;obtain⟨d,D,l,rfl,ho,t,hlt,hx⟩:=H.ex;have an:=xP t hlt;by_cases E:m=0
 . subst E;have S:=Si ok;refine erA (n:=55) (rs:=[.tmp 2,.tmp 3,.tmp 4]) Tryz.e177 ?_;simp only [BZ,seval];refine ar (B) ?_;intro h g;replace S:=S.call g;simp only [BZ,ab,Xe,seval];exact .inl ⟨O.1 rfl,S.gr⟩
 . have aa: ¬((m:Int)=0):=(by omega);rcases hx with⟨rfl,_⟩|⟨y,cap,rfl,R⟩
   . exact absurd (O.2 t.nil) E
   . have a:0<l.length:=by
      cases l with
      |nil=>exact absurd (O.2 t.nil) E|cons x l=>simp
     have S:=Si ok;refine erA (n:=55) (rs:=[.tmp 2,.tmp 3,.tmp 4]) Tryz.e177 ?_;simp only [BZ,seval];refine ar (B) ?_;intro h g;replace S:=S.call g;replace R:=R.gr g;clear g;have g0:=S.gr;clear S;obtain⟨cs,es,c,f,z,G,C,MI,IF⟩:=R.ex;have r0:=R.row.load1 (o:=0) rfl;have l2:=C.ld2 z a;have S:=Si g0.ok;have i0:iC (.int .i64 0) l.length=some 0:=dz (i:=0) a;have w1:am .i64 ((l.length:Int)-1)=((l.length-1:Nat):Int):=(by rw [wrap64]<;>omega);simp only [BZ,aa,seval];refine aw (AZ (ord:=[14,0,1,2,3,4,5,6,7,8,9,10,11,12,13,15,16]) rfl rfl (by simp only [gH,reix,gK,YB,YC,List.map_toArray,XM,Yv,cond_true,cond_false,seval];exact rfl)) (q:=1) (ps:=[(13,15),(12,15)]) (by kernel_rfl) ?_;simp only [BZ,cls,seval];refine ey ay S ?_;clear S;intro h s S ak al;simp only [BZ,cls,S.old r0 (fun h=>h),S.old l2 (fun h=>h),i0,w1,seval];refine dR (stA S (i:=0) Tryz.t316.2.1) ?_;clear S;rintro h ⟨S,mo⟩;clear mo;simp only [LC,ae,lay,Xc,Xd,seval]at S;simp only [BZ,cls,S.old r0 (fun h=>h),S.old l2 (fun h=>h),seval];have g1:=S.gr;have R1:=R.gr g1;have Y:=S.lds (b:=s) (o:=0) (n:=2) m0 (lbt rfl);have A:=R.lt g0.ok;have nb:s≠d:=fun e=>(by have:=A d (.inl rfl);omega);have P:s≠y:=fun e=>(by have:=A y (.inr (.inl rfl));omega);refine⟨by simp only [aT,aZ,aN,a9,aO,ne_eq,not_false_eq_true,bg,bF,aU,aP,bS,ct,ax,XF,ah,qT,uz,im nb,im nb.symm,im P,im P.symm,seval],?_⟩;have sw:Ret zB 215 [ptrTo d,.int .i64 0,.int .i64 ((l.length-1:Nat):Int)] _ _:=wo S.ok R1 (i:=0) (k:=l.length-1) a (by omega);refine step_ret sw ?_
     --refine step_ret (wo S.ok R1 (i := 0) (k := l.length - 1) a (by omega)) ?_
     rintro r I ⟨Z,L⟩;have gg:Gr h0 h:=g0.trans g1;have mA:Mo (· ∈[d,y,D]) h0 I:=(gg.fr (M:=(· ∈[d,y,D]))).trans Z (fun c t=>.inl (by rcases t with rfl|rfl<;>simp));have J:I.load s 0 2=some [.int .i64 (l.getD 0 default).id,.int .i64 (l.getD 0 default).key]:=(by have:=Z.get s (bU Z.ok0 Y) (fun hM=>by have:=A s (.inr hM);omega);unfold Hp.load at Y⊢;rw [this];exact Y);have aL:=L.lt mA.ok;have ac:=mA.ok;have Q:=bU mA.ok J;clear S R R1 Z sw z G C MI IF Y l2 r0;obtain⟨cs,es,c,f,z,G,C,MI,IF⟩:=L.ex;have S:=St.init3 (M:=(· ∈[d,y,D])) (h:=I) ac (o1:=.row cs 1) (o2:=.row _ 1) (o3:=.map es c) z L.row G L.ne.1.symm L.ne.2.2 L.ne.2.1 (by simp) (by simp) (by simp);have sl:=slice_hi (kd:=.i64) (b:=y) (len:=(sw l 0 (l.length-1)).length) (n:=l.length-1) Tryz.t314.1 Tryz.t322.2.1 (cap:=cap) (by have:=C.le;rw [jd]at this;omega);simp only [BZ,XD,Yc,sl,S.ld (b:=d) (o:=0) m1 rfl,S.ld (b:=d) (o:=1) m1 rfl,seval];refine au (av S (i:=1) rfl ?_ ?_ ?_ ono) ?_
     . exact(by simp only [FA0])
     . exact(by exact bJ)
     . exact zO (lbt rfl)
     clear S;rintro h ⟨S,mo⟩;clear mo;simp only [LC,ae,lay,Xc,Xd,seval]at S;simp only [BZ,S.ld (b:=d) (o:=0) m1 rfl,S.ld (b:=d) (o:=1) m1 rfl];refine aw (aA rfl) (q:=0) (ps:=[]) (by kernel_rfl) ?_;have T: ¬s∈[d,y,D]:=fun O=>(by have:=A s (by simpa using O);omega);have U:I.load s 0 1=some [.int .i64 (l.getD 0 default).id]:=(by have:=dH J (i:=0) (m:=1) (by omega);simpa using this);have ad:I.load s 1 1=some [.int .i64 (l.getD 0 default).key]:=(by have:=dH J (i:=1) (m:=1) (by omega);simpa using this);simp only [BZ,cls,S.old U T,S.ld (b:=d) (o:=1) m1 rfl,seval];refine dn_del (S.mdelI (i:=2) rfl Tryz.t187.1 Tryz.t3.1 MI) ?_;clear S;rintro h ⟨_,a0,c',af,S⟩;simp only [LC]at S;simp only [BZ,seval];have V:(sw l 0 (l.length-1)).length=l.length:=jd _ _ _;have w:=jS l (i:=0) (k:=l.length-1) a (by omega) (l.length-1);rw [if_pos rfl]at w;have W:=IF.cut (m:=l.length-1) (by omega);rw [w]at W;have tl:((sw l 0 (l.length-1)).take (l.length-1)).length=l.length-1:=(by rw [Xo,V];omega);have R3:ib h d y D cap N ((sw l 0 (l.length-1)).take (l.length-1)):=S.rowS (C.take _) tl.symm af W;have dn:Ret zB 216 [ptrTo d,.int .i64 0] h _:=down_ok S.ok R3 (i:=0) (by
      by_cases e:l.length-1=0
      . exact .inr ⟨List.length_eq_zero_iff.1 (by rw [tl,e]),rfl⟩
      . exact .inl (by omega)) (by omega) (heap_pop ho a)
     refine step_ret dn ?_;rintro r h ⟨fB,l',R',pm,ai⟩;have mB:Mo (· ∈[d,y,D]) I h:=S.fr.trans fB (fun c t=>.inl (by rcases t with rfl|rfl<;>simp));have X: ∀{o x},I.load s o 1=some x->h.load s o 1=some x:=fun e=>(by have:=mB.get s Q T;unfold Hp.load at e⊢;rw [this];exact e);simp only [BZ];refine aw (aA rfl) (q:=0) (ps:=[]) (by kernel_rfl) ?_;simp only [BZ,cls,ab,X U,X ad,seval];refine .inr ⟨(l.getD 0 default).id,(l.getD 0 default).key,rfl,t.at a,fun u k' hu=>?_,mA.trans mB (fun c t=>.inl t),⟨d,D,l',rfl,ai,(t.pop a).perm pm,fun x hx=>?_,.inr ⟨y,cap,rfl,R'⟩⟩⟩
     . obtain⟨j,hj,e⟩:=t.idx hu;have:=heap_min ho j hj;rw [e]at this;unfold Ab.hle at this;simp only []at this;omega
     . exact hlt x ((wL l a (by omega)).mem_iff.1 (List.mem_of_mem_take (pm.mem_iff.1 hx)))
end
def ue(E:Env)(g:FuncId)(a post:List Value)(c:Hp)(D:Nat->Prop)(xs:List (List Value)):Prop:=
 ∀b J Z,(∀v h,¬Z (.pan v) h)->Yld E b J Z xs-> ∀h F,ItS c D h F->J 0 h F->dI E g (a++[.func (.yield b) #[] #[]]++post) none h (YQ J Z xs.length)
theorem iter_useN{g:FuncId}{a post:List Value}{xs:List (List Value)}(H:ue E g a post c D xs){d:Nat}{Z:Out->Hp->Prop}(j: ∀v h,¬Z (.pan v) h)(Y:Yld E d J Z xs)(e:Mo (fun b=> ¬D b) c h)(k: ∀b∈F,b<c.n-> ¬D b)(i:J 0 h F):dI E g (a++[.func (.yield d) #[] #[]]++post) none h (YQ J Z xs.length):=
 H d J Z j Y h F ⟨e.ok,e.n,fun b f l=>e.get b f (fun m=>m l),fun b f h=>k b f h.1 h.2,(Y.lt 0 h F i).2⟩ i
theorem dn_yield{Q:dW}{a:List Oper}{q:Nat}{o:Oper}{k:List Fr}{l:Loc}{d:Hp->List (Nat×Tch)}{e:Hp}{f:Nat}{Z:Out->Hp->Prop}{xs:List (List Value)}{x:List Value}(u: ∀v h,¬Z (.pan v) h)(Y:Yld E f J Z xs)(s:ItS e D h F)(g:J j h F)(m:xs[j]? =some x)(n: ∀h' F',J (j+1) h' F'->ItS e D h' F'->Mo (· ∈F) h h'->(∀b∈F',b∈F\/h.n<=b)->Run E (lim E) cx Q (.opsD a q ps os (i+1) (d h')::k) .normal (l.put o.dst (.bool true)) h')(k2: ∀h',Z (.ret (.bool false)) h'->OZ h'->Run E (lim E) cx Q (.opsD a q ps os (i+1) (d h')::k) .normal (l.put o.dst (.bool false)) h'):DN E cx Q a q ps o os i k l d (some (.yield f x,h)):=by
 obtain⟨p,h',r,t⟩:=Y.round j x h F m g;refine⟨p,h',r,?_⟩;rcases t with⟨rfl,F',a,b,c⟩|⟨rfl,a,b⟩|⟨⟨v,rfl⟩,a⟩
 . exact n h' F' a (s.mo b c (Y.lt _ _ _ a).2) b c
 . exact k2 h' a b
 grind
def gM(h h':Hp):Prop:= ∀b,b<h.n->h'.get b=h.get b
theorem gM.load{h h':Hp}(a:OZ h)(g:gM h h'){b o n:Nat}{l:List Value}(e:h.load b o n=some l):h'.load b o n=some l:=by have:=g b (bU a e);grind[Hp.load]
theorem gM.row(a:OZ h)(g:gM h h'){l:List Value}(r:Row h b l md):Row h' b l md:=Row.of_get (g b (r.lt a)) r
theorem aH.keep{a:Type}{enc:a->List Value}{xs:List a}(d:OZ h)(g:gM h h')(s:aH h k enc v xs):aH h' k enc v xs:=by
 rcases s with s|⟨b,o,s,c,e,f,i⟩
 . exact .inl s
 . exact .inr ⟨b,o,s,c,e,f,g.load d i⟩
theorem iO.keep{h h':Hp}{v:Value}{m N:Nat}{R:Nat->List Nat}(d:OZ h)(g:gM h h')(r:iO h m v N R):iO h' m v N R:=by
 obtain⟨e,f,j,k,l,n,o⟩:=r;exact⟨e,f,j,k,g.row d l,n,fun i p=>by
  obtain⟨w,a,b,c⟩:=o i p;exact⟨w,a,b.keep d g,c⟩⟩
theorem cH.keep{h h':Hp}{m:Nat}{p:Value}{d:Gra}(a:OZ h)(g:gM h h')(n:cH h m p d):cH h' m p d:=by obtain⟨b,e,f,i,j,k,l,o,c,q,r,s,t⟩:=n.ex;exact⟨b,e,f,i,j,k,l,g.row a o,⟨c.X.keep a g,c.Y.keep a g,c.A.keep a g⟩,q.keep a g,r.keep a g,s,t⟩
theorem Gr.keep(g:Gr h h'):gM h h':=g.get
theorem gM.trans{a b c:Hp}(x:gM a b)(n:a.n<=b.n)(y:gM b c):gM a c:=fun i d=>(y i (Ys d n)).trans (x i d)
theorem ItS.keep(s:ItS a D h F)(g:gM hq a)(n:hq.n<=a.n)(e: ∀c,c<hq.n->D c):gM hq h:=fun b d=>(s.data b (Ys d n) (e b d)).trans (g b d)
theorem mY{n:Int}(a:0<=n)(b:n<18446744073709551616):am .u64 n=n:=by obtain⟨m,rfl⟩:=Int.eq_ofNat_of_zero_le a;grind[am,hf,sgn,pw,Ye,Yf]
theorem b_andU{t:TypeId}{x y:Operand}(h:N<4294967296):bI E .and t x y (.int .u64 (N:Int)) (.int .u64 4294967295)=some (.int .u64 (N:Int)):=by
 have a:Ye N 18446744073709551616=true:=by rw [Yf];omega
 have b:Nat.land N 4294967295=N:=by have:=Nat.and_two_pow_sub_one_eq_mod N 32;simp_all
 have e3:=mY (n:=(N:Int)) (by omega) (by omega);have e4:jh .and .u64 (.ofNat N) (.ofNat 4294967295)=some (am .u64 (.ofNat (Nat.land N 4294967295))):=by simp only [jh,pw];rw [a];rfl
 show(jh .and .u64 (.ofNat N) (.ofNat 4294967295)).map _=_;grind
theorem b_shrU{t:TypeId}{x y:Operand}(h:N<4294967296):bI E .shr t x y (.int .u64 (N:Int)) (.int kd 32)=some (.int .u64 0):=by
 have e:N/Nat.pow 2 (bif Yd 32 (bitsOf .u64)then 32 else bitsOf .u64)=0:=by show N/4294967296=0;omega
 show(ol .shr .u64 (.ofNat N) (.ofNat 32)).map _=_;show some (Value.int .u64 (.ofNat (N/Nat.pow 2 (bif Yd 32 (bitsOf .u64)then 32 else bitsOf .u64))))=_;rw [e];rfl
theorem iW(j:OZ a){f:Type}{enc:f->List Value}(k: ∀x,(enc x).length=1){xs:List f}(hs:aH a 1 enc v xs)(t:xs.length<1000000):Ret zB 50 [v] a fun r h'=>Gr a h'/\aH h' 1 enc r xs/\ ∀c,az r c->a.n<=c:=by
 have S:=Si j;rcases hs with⟨rfl,rfl⟩|⟨b,o,s,c,rfl,l,m⟩
 . refine erA (n:=8) (rs:=[.tmp 2]) Tryz.e50 ?_;simp only [BZ,ab,seval];exact⟨S.gr,.inl ⟨rfl,rfl⟩,fun c d=>d.elim⟩
 . refine erA (n:=8) (rs:=[.tmp 2]) Tryz.e50 ?_;simp only [BZ,seval];refine ag (bE (by exact Tryz.t38.1) (by exact Tryz.e3E) (by decide) (by rfl)) S ?_;clear S;intro h u S i;simp only [LC,bz,bN,ae,Xk,Xj,Xb,Xp,seval]at S;simp only [BZ,seval];refine dc (S.cloneSl (enc:=enc) (xs:=[]) Tryz.t38.1 Tryz.e3E (by decide) Tryz.t38.2.2.2.2.2 (.inr ⟨b,o,s,c,rfl,l,S.old m (fun h=>h)⟩) k (by decide) (by simp only [X9,Xj];omega) (S.row m0)) ?_;rintro h' v ⟨p,g,q,d⟩;simp only [BZ,ab,seval];refine⟨p.gr,by simpa using q,fun c h=>(d c h).elim (fun e=>by omega) (fun e=>Xl S.fr.n e)⟩
theorem dm(e:OZ a){d:Gra}{f:Nat}(c:cH a f p d):cj zB 49 [p] a (.int .i64 d.nodes):=by have S:=Si e;obtain⟨b,h,i,j,k,l,rfl,r,_⟩:=c.ex;have g:=r.load1 (o:=0) rfl;refine erA (n:=10) (rs:=[.tmp 2]) Tryz.e49 ?_;simp only [BZ,ab,g,seval];exact S.gr
theorem oneArc_ok(j:OZ a){A:List Arc}(f:aH a 3 cQ v A)(k:i<A.length):Ret zB 220 [v,.int .i64 i] a fun r h'=>Gr a h'/\r=.tuple #[.agg ⟨cQ A[i]⟩,.bool true]:=by
 have S:=Si j;have l: ¬((i:Int)<0):=by omega
 have m: ¬((A.length:Int)<=(i:Int)):=by omega
 refine erA (n:=19) (rs:=[.cell 4 81,.tmp 5]) Tryz.e220 ?_;simp only [BZ];refine ag ay S ?_;clear S;intro h p S g;obtain⟨c,o,d,e⟩:=(f.gr S.gr).ix (kd:=.i64) dQ k;simp only [BZ,f.lenq,l,m,d,e,seval];refine au (stA S (i:=0) Tryz.t81.2.1) ?_;clear S;rintro h ⟨S,q⟩;clear q;simp only [LC,ae,lay,Xc,Xd,seval]at S;simp only [BZ,ab,cQ];refine(bA (by decide) (by simp only [ax,ah,seval];exact aY Tryz.t81.1 Tryz.t81.2.1 (S.lds (b:=p) (o:=0) (n:=3) m0 (lbt rfl)))).2 ?_;refine(dk (by decide)).2 (bR.2 ?_);exact⟨S.gr,rfl⟩
theorem AA(d:OZ a)(f:iO a m v N R)(b:i<N):Ret zB 180 [v,.int .i64 i] a fun r h'=>Gr a h'/\ ∃w,r=.tuple #[w,.bool true]/\aH h' 1 gp w (R i):=by
 have S:=Si d;obtain⟨p,q,rfl,_,g,c,h⟩:=f;obtain⟨w,e,j,_⟩:=h i b;have k:=g.load1 e;have l: ¬((i:Int)<0):=by omega
 have o: ¬((N:Int)<=(i:Int)):=by omega
 refine erA (n:=19) (rs:=[.tmp 4,.tmp 5]) Tryz.e180 ?_;simp only [BZ,ab,l,o,b,k,seval];exact⟨S.gr,_,rfl,j⟩
theorem rR(f:OZ a){d:Gra}(c:cH a j p d)(k:i<d.arcs.length):Ret zB 182 [p,.int .i64 i] a fun r h'=>Gr a h'/\r=.tuple #[.agg ⟨cQ d.arcs[i]⟩,.bool true]:=by have S:=Si f;obtain⟨b,t,u,w,x,y,rfl,r,l,_⟩:=c.ex;have m:=r.load1 (o:=3) rfl;refine erA (n:=18) (rs:=[.cell 4 81,.tmp 5]) Tryz.e182 ?_;simp only [BZ];refine ag ay S ?_;clear S;intro h q S e;simp only [BZ,S.old m (fun h=>h),seval];refine step_ret (oneArc_ok S.ok (l.A.gr S.gr) k) ?_;rintro v h ⟨g,rfl⟩;replace S:=S.call g;simp only [BZ,cQ,seval];refine au (stA S (i:=0) Tryz.t81.2.1) ?_;clear S;rintro h ⟨S,s⟩;clear s;simp only [LC,ae,lay,Xc,Xd,seval]at S;simp only [BZ,ab,seval];refine(bA (by decide) (by simp only [ax,ah,seval];exact aY Tryz.t81.1 Tryz.t81.2.1 (S.lds (b:=q) (o:=0) (n:=3) m0 (lbt rfl)))).2 ?_;refine(dk (by decide)).2 (bR.2 ?_);exact⟨S.gr,rfl⟩
theorem netOut_ok(f:OZ d){a:Gra}(c:cH d j p a)(k:a.arcs.length<1000)(l:i<a.nodes):Ret zB 115 [p,.int .i64 i] d fun r h'=>Gr d h'/\aH h' 1 gp r (outs a.arcs Arc.s a.arcs.length i)/\ ∀c,az r c->d.n<=c:=by have S:=Si f;obtain⟨b,u,x,y,z,A,rfl,r,B,m,C,_⟩:=c.ex;have q:=r.load1 (o:=4) rfl;refine erA (n:=20) (rs:=[.tmp 4]) Tryz.e115 ?_;simp only [BZ,q,seval];refine step_ret (AA S.ok m l) ?_;rintro v h ⟨g,w,rfl,e⟩;replace S:=S.call g;simp only [BZ,seval];have s:=S.fr.n;have t:=rI a.arcs Arc.s a.arcs.length i;refine step_ret (iW S.ok jb e (by omega)) ?_;intro v h ⟨g,e,hc⟩;replace S:=S.call g;simp only [BZ,ab,seval];exact⟨S.gr,e,fun c h=>Xl s (hc c h)⟩
theorem C7(f:OZ d){a:Gra}(c:cH d j p a)(k:a.arcs.length<1000)(l:i<a.nodes):Ret zB 113 [p,.int .i64 i] d fun r h'=>Gr d h'/\aH h' 1 gp r (outs a.arcs Arc.t a.arcs.length i)/\ ∀c,az r c->d.n<=c:=by have S:=Si f;obtain⟨b,u,x,y,z,A,rfl,r,B,C,m,_⟩:=c.ex;have q:=r.load1 (o:=5) rfl;refine erA (n:=20) (rs:=[.tmp 4]) Tryz.e113 ?_;simp only [BZ,q,seval];refine step_ret (AA S.ok m l) ?_;rintro v h ⟨g,w,rfl,e⟩;replace S:=S.call g;simp only [BZ,seval];have s:=S.fr.n;have t:=rI a.arcs Arc.t a.arcs.length i;refine step_ret (iW S.ok jb e (by omega)) ?_;intro v h ⟨g,e,hc⟩;replace S:=S.call g;simp only [BZ,ab,seval];exact⟨S.gr,e,fun c h=>Xl s (hc c h)⟩
theorem mul64_ok(c:OZ a)(j:N<1000):cj zB 230 [.int .u64 1,.int .u64 N] a (.tuple #[.int .u64 0,.int .u64 N]):=by have S:=Si c;have d: ∀{t x y},bI zB .and t x y (.int .u64 1) (.int .u64 4294967295)=some (.int .u64 1):=b_andU (N:=1) (by decide);have e: ∀{t x y},bI zB .and t x y (.int .u64 0) (.int .u64 4294967295)=some (.int .u64 0):=b_andU (N:=0) (by decide);have f: ∀{t x y b},bI zB .shr t x y (.int .u64 1) (.int b 32)=some (.int .u64 0):=b_shrU (N:=1) (by decide);have g: ∀{t x y b},bI zB .shr t x y (.int .u64 0) (.int b 32)=some (.int .u64 0):=b_shrU (N:=0) (by decide);have h:am .u64 (N:Int)=(N:Int):=mY (by omega) (by omega);have i:am .u64 0=0:=rfl;refine erA (n:=51) (rs:=[.tmp 4,.tmp 5]) Tryz.e230 ?_;simp only [BZ,ab,d,e,f,g,b_andU (N:=N) (by omega),b_shrU (N:=N) (by omega),Int.one_mul,Int.zero_mul,Int.mul_zero,Int.add_zero,h,i,seval];exact S.gr
theorem mul_ok(b:OZ a)(c:N<1000):cj zB 212 [.int .u64 1,.int .u64 N] a (.tuple #[.int .u64 0,.int .u64 N]):=by have S:=Si b;refine erA (n:=30) (rs:=[.tmp 4,.tmp 5]) Tryz.e212 ?_;simp only [BZ,seval];refine ar (mul64_ok S.ok c) ?_;intro h g;replace S:=S.call g;simp only [BZ,ab,seval];exact S.gr
theorem norm_ok(d:OZ a){l:List Int}(b:aH a 1 (encI .i64) v l)(j:l.length<1000):Ret zB 62 [v] a fun r h'=>Gr a h'/\aH h' 1 (encI .i64) r (norm [] l)/\ ∀c,az r c->a.n<=c:=by
 have S:=Si d;refine erA (n:=6) (rs:=[.tmp 2]) Tryz.e62 ?_;simp only [BZ,seval];refine step_ret (namer_ok S.ok) ?_;intro v h ⟨g,bx,bm,k,n1,n2,R,hg⟩;replace S:=S.call g;replace b:=b.gr g;clear g;subst k;simp only [BZ,seval];refine step_ret (each_ok (ks:=[]) S.ok R hg b j) ?_;rintro r h ⟨f,m,o⟩;simp only [BZ,ab,seval];exact⟨(S.fr.trans f (fun i e=>.inr (by subst e;exact n2))).gr,m,fun c h=>Xl S.fr.n (o c h)⟩
theorem BV{g:Hp}(t:OZ g){u:Value}{l m:List Int}(r:aH g 1 (encI .i64) u l)(s:aH g 1 (encI .i64) v m)(B:l.length<1000000):cj zB 61 [u,v] g (.bool (decide (l=m))):=by
 have S:=Si t;by_cases a:l.length=m.length
 . have hle:((l.length:Int)=(m.length:Int)):=(by omega);refine erA (n:=26) (rs:=[.tmp 4]) Tryz.e61 ?_;simp only [BZ,r.lenq,s.lenq,hle,seval];refine aF (fun(i:Nat) j h=>i<=l.length/\l.take i=m.take i/\Gr g h/\j 0=u/\j 1=v/\j 12=.int .i64 l.length/\j 13=.int .i64 i) (fun i=>l.length-i) ?_ 0 _ _ ?_
   . clear S;intro i x j h ⟨hi,ht,S,r0,r1,r12,r13⟩;by_cases hlt:i<l.length
     . obtain⟨c,o,d,k⟩:=(r.gr S).ix (kd:=.i64) (aE .i64) hlt;obtain⟨C,D,b,e⟩:=(s.gr S).ix (kd:=.i64) (aE .i64) (a▸hlt);have w:am .i64 ((i:Int)+1)=((i+1:Nat):Int):=(by rw [wrap64]<;>omega);by_cases p:l[i]=m[i]
       . simp only [BZ,r12,r13,aq,hlt,seval];refine aw (aA rfl) (q:=0) (ps:=[]) (by kernel_rfl) ?_;simp only [BZ,cls,r0,r1,r13,d,k,b,e,encI,p,w,seval];refine x (i+1) _ _ (by omega) ⟨by omega,?_,S,by simp [ao,r0,r1,r12]⟩;rw [Xm hlt,Xm (a▸hlt),ht,p]
       . have f:l≠m:=(by rintro rfl;exact p rfl);simp only [BZ,r12,r13,aq,hlt,seval];refine aw (aA rfl) (q:=0) (ps:=[]) (by kernel_rfl) ?_;simp only [BZ,cls,ab,r0,r1,d,k,b,e,encI,p,f,seval];exact S
     . have y:l=m:=(by have z:l.take i=l:=XE (by omega);have A:m.take i=m:=XE (by omega);rw [z,A]at ht;exact ht);subst y;simp only [BZ,ab,r12,r13,aq,hlt,seval];exact S
   . exact⟨Xv _,rfl,Gr.refl t,by simp [ao,cy,cS,a]⟩
 . have f:l≠m:=(by rintro rfl;exact a rfl);have hle: ¬((l.length:Int)=(m.length:Int)):=(by omega);refine erA (n:=26) (rs:=[.tmp 4]) Tryz.e61 ?_;simp only [BZ,ab,r.lenq,s.lenq,hle,f,seval];exact S.gr
def gu:List Int->Int
 | []=>0|x::a=>a.foldl max x
theorem lmax_succ{l:List Int}(a:1<=i)(hlt:i<l.length):gu (l.take (i+1))=max (gu (l.take i)) l[i]:=by
 cases l with
 |nil=>cases hlt
 | cons x b=>
   obtain⟨j,rfl⟩: ∃j,i=j+1:=⟨i-1,by omega⟩;rw [XB,XB,gu,gu,List.getElem_cons_succ,Xm (by simpa using hlt),List.foldl_append];rfl
theorem lmax_one{l:List Int}(a:0<l.length):gu (l.take 1)=l[0]:=by
 cases l with
 |nil=>cases a
 |cons x b=>rfl
theorem maxInt_ok{f:Hp}(p:OZ f){l:List Int}(g:aH f 1 (encI .i64) v l)(k:1<=l.length)(t:l.length<1000000):cj zB 63 [v] f (.int .i64 (gu l)):=by
 have S:=Si p;have m: ¬((l.length:Int)<1):=by omega
 obtain⟨c,o,a,b⟩:=g.ix (kd:=.i64) (aE .i64) (i:=0) (by omega);have d:iB (some 1) v (.int .i64 0)=_:=a;have q:=lmax_one (l:=l) (by omega);generalize l[0]=x at b q;refine erA (n:=25) (rs:=[.tmp 2]) Tryz.e63 ?_;simp only [BZ,g.lenq,m,d,b,encI,seval];refine aF (fun(i:Nat) j h=>1<=i/\i<=l.length/\Gr f h/\j 0=v/\j 3=.int .i64 (gu (l.take i))/\j 4=.int .i64 i) (fun i=>l.length-i) ?_ 1 _ _ ?_
 . clear S;intro i s j h ⟨k,hi,S,r0,r3,r4⟩;by_cases hlt:i<l.length
   . obtain⟨c,o,a,b⟩:=(g.gr S).ix (kd:=.i64) (aE .i64) hlt;have w:am .i64 ((i:Int)+1)=((i+1:Nat):Int):=(by rw [wrap64]<;>omega);have r:=lmax_succ k hlt;generalize l[i]=y at b r;simp only [BZ,r0,r3,r4,(g.gr S).lenq,aq,hlt,a,b,encI,w,seval];refine s (i+1) _ _ (by omega) ⟨by omega,by omega,S,by simp [ao,r0],?_,by simp [ao]⟩;simp only [ax,seval];rw [r]
   . simp only [BZ,ab,r0,r3,r4,(g.gr S).lenq,aq,hlt,seval];have e:l.take i=l:=XE (by omega);rw [e];exact⟨rfl,S⟩
 . exact⟨Xx _,k,Gr.refl p,by simp [ao,cy,q]⟩
theorem CJ(ks l:List Int):(norm ks l).length=l.length:=by
 induction l generalizing ks with
 |nil=>rfl|cons x a b=>show(norm _ a).length+1=_;rw [b];rfl
def jv(h:Hp)(n:Nat)(p:Value)(m:List Int):Prop:= ∃b v,p=ptrTo b/\Row h b [v,.int .i64 (gu m+1)] 1/\aH h 1 (encI .i64) v m/\n<=b/\ ∀c,az v c->n<=c
theorem jv.mo{M:Nat->Prop}{h h':Hp}{n:Nat}{p:Value}{m:List Int}(c:jv h n p m)(g:Mo M h h')(a: ∀b,M b->b<n):jv h' n p m:=by obtain⟨b,v,e,r,s,f,d⟩:=c;exact⟨b,v,e,g.has (o:=.row _ 1) r (fun h=>by have:=a _ h;omega),s.mo g (fun c i j=>by have:=a _ j;have:=d c i;omega),f,d⟩
theorem jv.gr{m:List Int}(c:jv h n p m)(g:Gr h h'):jv h' n p m:=c.mo (M:=NoM) g.fr (fun _ h=>h.elim)
def me(m:List Int):Prop:=m=[]\/norm [] m≠m\/256<gu m+1
theorem yX{j:Hp}(z:OZ j){m:List Int}(d:aH j 1 (encI .i64) v m)(A:m.length<1000)(G:0<=gu m/\gu m<=1000000):Ret zB 18 [v] j fun r h'=>Gr j h'/\((me m/\r=.pointer none)\/(¬me m/\jv h' j.n r m)):=by
 have S:=Si z;have H:=CJ [] m;by_cases t:m=[]
 . subst t;refine erA (n:=27) (rs:=[.tmp 2]) Tryz.e18 ?_;simp only [BZ,ab,Xe,d.lenq,seval];exact⟨S.gr,.inl (.inl rfl)⟩
 . have B:1<=m.length:=by cases m with
    |nil=>exact absurd rfl t|cons a l=>simp
   have C: ¬((m.length:Int)=0):=(by omega);refine erA (n:=27) (rs:=[.tmp 2]) Tryz.e18 ?_;simp only [BZ,d.lenq,C,seval];refine step_ret (norm_ok S.ok d A) ?_;intro v h ⟨g,sl,fr⟩;replace S:=S.call g;replace d:=d.gr g;clear g;by_cases p:norm [] m=m
   . simp only [BZ,seval];refine ar (BV S.ok sl d (by omega)) ?_;intro h g;replace S:=S.call g;replace d:=d.gr g;clear g;simp only [BZ,p,seval];have D:=S.fr.n;refine step_ret (iW S.ok (aE .i64) d (by omega)) ?_;intro u h ⟨g,i,q⟩;replace S:=S.call g;replace d:=d.gr g;clear g;have E:Fl u:=i.fl;simp only [BZ,seval];refine ar (maxInt_ok S.ok d B (by omega)) ?_;intro h g;replace S:=S.call g;replace d:=d.gr g;replace i:=i.gr g;clear g;have w:am .i64 (gu m+1)=gu m+1:=(by rw [wrap64]<;>omega);have k:=S.gr;clear S;have S:=Si k.ok;simp only [BZ,w,E,seval];refine ag (bG (by intro x e;cases e)) S ?_;clear S;intro h b S s;simp only [ae]at S;have y:=S.ld (b:=b) (o:=1) m0 rfl;by_cases f:256<gu m+1
     . simp only [BZ,ab,f,y,seval];exact⟨k.trans S.gr,.inl (.inr (.inr f))⟩
     . simp only [BZ,ab,f,y,seval];exact⟨k.trans S.gr,.inr ⟨by rintro(h|h|h)<;>contradiction,b,u,rfl,S.row m0,i.gr S.gr,Xl k.n s,fun c F=>Xl D (q c F)⟩⟩
   . simp only [BZ,seval];refine ar (BV S.ok sl d (by omega)) ?_;intro h g;replace S:=S.call g;replace d:=d.gr g;clear g;simp only [BZ,ab,p,seval];exact⟨S.gr,.inl (.inr (.inl p))⟩
theorem oF(e:OZ a){d:Gra}{f:Nat}(c:cH a f p d):cj zB 67 [p] a (.int .i64 d.arcs.length):=by have S:=Si e;obtain⟨b,i,j,k,l,m,rfl,r,g,_⟩:=c.ex;have h:=r.load1 (o:=3) rfl;refine erA (n:=11) (rs:=[.tmp 2]) Tryz.e67 ?_;simp only [BZ,ab,h,g.A.lenq,seval];exact S.gr
def nV(h:Hp)(p:Value)(m:List Int)(n:Int):Prop:=(p=.pointer none/\m=[]/\n=0)\/((∃k,jv h k p m)/\n=gu m+1)
theorem nV.gr{h h':Hp}{p:Value}{m:List Int}{n:Int}(g:Gr h h')(c:nV h p m n):nV h' p m n:=c.imp (fun h=>h) (fun⟨⟨k,h⟩,e⟩=>⟨⟨k,h.gr g⟩,e⟩)
theorem map_ok(d:OZ a){m:List Int}{n:Int}(c:nV a p m n)(e:m.length<1000000):Ret zB 28 [p] a fun r h'=>Gr a h'/\aH h' 1 (encI .i64) r m:=by
 have S:=Si d;rcases c with⟨rfl,rfl,rfl⟩|⟨⟨_,b,v,rfl,r,s,_,_⟩,rfl⟩
 . refine erA (n:=10) (rs:=[.tmp 2]) Tryz.e28 ?_;simp only [BZ,ab,seval];exact⟨S.gr,.inl ⟨rfl,rfl⟩⟩
 . have f:=r.load1 (o:=0) rfl;refine erA (n:=10) (rs:=[.tmp 2]) Tryz.e28 ?_;simp only [BZ,f,seval];refine step_ret (iW S.ok (aE .i64) s e) ?_;intro v h ⟨g,sl,_⟩;replace S:=S.call g;simp only [BZ,ab,seval];exact⟨S.gr,sl⟩
theorem wG(d:OZ a){m:List Int}{n:Int}(c:nV a p m n):cj zB 66 [p] a (.int .i64 n):=by
 have S:=Si d;rcases c with⟨rfl,rfl,rfl⟩|⟨⟨_,b,v,rfl,r,s,_,_⟩,rfl⟩
 . refine erA (n:=9) (rs:=[.tmp 2]) Tryz.e66 ?_;simp only [BZ,ab,seval];exact S.gr
 . have e:=r.load1 (o:=1) rfl;refine erA (n:=9) (rs:=[.tmp 2]) Tryz.e66 ?_;simp only [BZ,ab,e,seval];exact S.gr
def rK(h:Hp)(p:Value)(a w:Int)(c:Bool):Prop:=(p=.pointer none/\a=0/\w=0/\c=false)\/ ∃b x y,p=ptrTo b/\Row h b [.int .i64 a,.int .i64 w,x,y] 1/\c=true
theorem rK.gr{h h':Hp}{p:Value}{a w:Int}{d:Bool}(g:Gr h h')(c:rK h p a w d):rK h' p a w d:=c.imp (fun h=>h) (fun⟨b,x,y,e,r,n⟩=>⟨b,x,y,e,r.gr g,n⟩)
theorem m9(e:OZ d){a w:Int}{f:Bool}(c:rK d p a w f):cj zB 128 [p] d (.int .i64 a):=by
 have S:=Si e;rcases c with⟨rfl,rfl,rfl,rfl⟩|⟨b,x,y,rfl,r,rfl⟩
 . refine erA (n:=9) (rs:=[.tmp 2]) Tryz.e128 ?_;simp only [BZ,ab,seval];exact S.gr
 . have g:=r.load1 (o:=0) rfl;refine erA (n:=9) (rs:=[.tmp 2]) Tryz.e128 ?_;simp only [BZ,ab,g,seval];exact S.gr
theorem pW(e:OZ d){a w:Int}{f:Bool}(c:rK d p a w f):cj zB 129 [p] d (.int .i64 w):=by
 have S:=Si e;rcases c with⟨rfl,rfl,rfl,rfl⟩|⟨b,x,y,rfl,r,rfl⟩
 . refine erA (n:=9) (rs:=[.tmp 2]) Tryz.e129 ?_;simp only [BZ,ab,seval];exact S.gr
 . have g:=r.load1 (o:=1) rfl;refine erA (n:=9) (rs:=[.tmp 2]) Tryz.e129 ?_;simp only [BZ,ab,g,seval];exact S.gr
theorem allB_ok{b:Hp}(j:OZ b){l:List Bool}(k:aH b 1 encB v l)(p:l.length<1000):cj zB 130 [v] b (.bool (l.all id)):=by
 have S:=Si j;refine erA (n:=14) (rs:=[.tmp 2]) Tryz.e130 ?_;simp only [BZ,k.lenq,seval];refine aF (fun(i:Nat) f h=>i<=l.length/\(l.take i).all id=true/\Gr b h/\f 5=v/\f 6=.int .i64 l.length/\f 7=.int .i64 i) (fun i=>l.length-i) ?_ 0 _ _ ?_
 . clear S;intro i m f h ⟨hi,ht,S,r5,r6,r7⟩;by_cases hlt:i<l.length
   . obtain⟨c,o,a,d⟩:=(k.gr S).ix (kd:=.i64) encB_len hlt;have w:am .i64 ((i:Int)+1)=((i+1:Nat):Int):=(by rw [wrap64]<;>omega);cases g:l[i]with
     | true=>simp only [BZ,r5,r6,r7,aq,hlt,a,d,encB,g,w,seval];refine m (i+1) _ _ (by omega) ⟨by omega,?_,S,by simp [ao,r5,r6]⟩;rw [Xm hlt,List.all_append,ht,g];rfl| false=>have e:l.all id=false:=(by rw [List.all_eq_false];exact⟨_,XH hlt,by simp [g]⟩);simp only [BZ,ab,r5,r6,r7,aq,hlt,a,d,encB,g,seval];rw [e];exact⟨rfl,S⟩
   . simp only [BZ,ab,r6,r7,aq,hlt,seval];rw [XE (by omega)]at ht;rw [ht];exact⟨rfl,S⟩
 . exact⟨Xv _,rfl,Gr.refl j,by simp [ao,cy]⟩
theorem Cg{e:Hp}(i:OZ e){b:Gra}{m:List Int}{n:Int}(c:cH e j p b)(d:nV e q m n)(l:1<=b.nodes)(k:m.length<1000000):cj zB 64 [p,q] e (.bool (decide (m.length=b.nodes))):=by
 have S:=Si i;have a:(0:Int)<(b.nodes:Int):=by omega
 have f:(b.nodes:Int)>0:=a;refine erA (n:=16) (rs:=[.tmp 4]) Tryz.e64 ?_;simp only [BZ,seval];refine ar (dm S.ok c) ?_;intro h g;replace S:=S.call g;replace c:=c.gr g;replace d:=d.gr g;clear g;simp only [BZ,a,seval];refine step_ret (map_ok S.ok d k) ?_;intro v h ⟨g,sl⟩;replace S:=S.call g;replace c:=c.gr g;replace d:=d.gr g;clear g;simp only [BZ,sl.lenq,seval];refine ar (dm S.ok c) ?_;intro h g;replace S:=S.call g;replace c:=c.gr g;replace d:=d.gr g;clear g;simp only [BZ,ab,seval];refine⟨?_,S.gr⟩;congr 1;by_cases h:m.length=b.nodes
 . simp [h]
 . have: ¬((m.length:Int)=(b.nodes:Int)):=(by omega);simp [h,this]
theorem Dm{f:Hp}(t:OZ f){r:Value}{i:Gra}{m:List Int}{n a w:Int}{j:Bool}(c:cH f u p i)(d:nV f q m n)(e:rK f r a w j)(v:1<=i.nodes)(z:m.length<1000000):cj zB 72 [p,q,r] f (.bool (decide (m.length=i.nodes)&&j&&decide (a=n)&&decide (w=i.arcs.length))):=by
 have S:=Si t;have A: ∀E:Env,pX E 63=true-> ∀x y,bI E .neq 63 x y r (.pointer none)=some (.bool j):=by
  intro E k x y;rcases e with⟨rfl,_,_,rfl⟩|⟨b,_,_,rfl,_,rfl⟩
  . exact n_pnil k
  . exact n_ptr k
 refine erA (n:=24) (rs:=[.tmp 6]) Tryz.e72 ?_;simp only [BZ,seval];refine ar (Cg S.ok c d v z) ?_;intro h g;replace S:=S.call g;replace c:=c.gr g;replace d:=d.gr g;replace e:=e.gr g;clear g;simp only [BZ,A zB Tryz.t63.2.2.2.2.1,seval];refine ar (m9 S.ok e) ?_;intro h g;replace S:=S.call g;replace c:=c.gr g;replace d:=d.gr g;replace e:=e.gr g;clear g;simp only [BZ,seval];refine ar (wG S.ok d) ?_;intro h g;replace S:=S.call g;replace c:=c.gr g;replace d:=d.gr g;replace e:=e.gr g;clear g;simp only [BZ,seval];refine ar (pW S.ok e) ?_;intro h g;replace S:=S.call g;replace c:=c.gr g;replace d:=d.gr g;replace e:=e.gr g;clear g;simp only [BZ,seval];refine ar (oF S.ok c) ?_;intro h g;replace S:=S.call g;replace c:=c.gr g;replace d:=d.gr g;replace e:=e.gr g;clear g;simp only [BZ,seval];refine ag (bE (by exact Tryz.t202.1) (by exact Tryz.e4E) (by decide) (by rfl)) S ?_;clear S;intro h B S s;simp only [LC,bz,bN,ae,Xk,Xj,Xb,Xp,seval]at S;simp only [BZ,seval];refine ar (allB_ok (l:=[decide (m.length=i.nodes),j,decide (a=n),decide (w=i.arcs.length)]) S.ok (.inr ⟨B,0,none,4,rfl,Xx _,S.lds (o:=0) (n:=4) m0 (lbt rfl)⟩) (by simp)) ?_;intro h g;replace S:=S.call g;simp only [BZ,ab,seval];exact⟨by simp [Bool.and_assoc],S.gr⟩
theorem Ch{t e:TypeId}(c:E.und t=some (.slice e))(hs:E.sz e=some 1)(d:n<N):cK E t (.slice (some ⟨b,0,none⟩) N N) (some (.int kd (n:Int))) none none=some (.slice (some ⟨b,n,none⟩) (N-n) (N-n)):=by
 have a: ∀n:Nat,fI (n:Int)=some n:=fun n=>rfl;have f:XY N n=false:=by
  cases h:XY N n with
  |false=>rfl|true=>have:=Yk h;omega
 simp only [cK,c,dE,ef,a,Xh (Nat.le_of_lt d),cond_true,hs,Xr,cond_false,f,iE,Xb,Xj]
theorem AP{t e:TypeId}(c:E.und t=some (.slice e))(hs:E.sz e=some k)(d:n<=N):cK E t (.slice (some ⟨b,0,none⟩) N N) none (some (.int kd (n:Int))) none=some (.slice (some ⟨b,0,none⟩) n N):=by have a: ∀n:Nat,fI (n:Int)=some n:=fun n=>rfl;simp only [cK,c,dE,ef,a,Xh d,cond_true,hs,Xr,cond_false,iE,Xk,Yy,Yq];cases XY N 0<;>rfl
section
variable{M:Nat->Prop}{h0 h:Hp}{L:List (Nat×Ob)}{G:List GL}{E:Env}{t e:TypeId}
theorem St.copyO(S:St M h0 h L G){len f o2:Nat}{sp c:Option Nat}{l:List Value}(g:L[i]? =some (b,.row cs 1))(n:E.und t=some (.slice e))(hs:E.sz e=some 1)(r:0<eH m len)(j:h.load f o2 (eH m len*1)=some l)(d:o+l.length<=cs.length)(hf:l.all iT=true){ts:List TypeId}:
 ∃h' w,copyV E h (t::ts) (.slice (some ⟨b,o,sp⟩) len cap) (.slice (some ⟨f,o2,c⟩) m k)=some (h',w)/\w=.int .i64 (eH m len:Nat)/\St M h0 h' (L.set i (b,.row (lay cs o l) 1)) G:=by
 obtain⟨y,p,q⟩:=(S.row (zM g)).store S.ok ono (o:=o) (vs:=l) d hf;have a:=load_len j;refine⟨h.put b y,_,?_,rfl,S.put g q⟩;simp only [copyV,n,hs,j];cases l with
 |nil=>simp at a;omega|cons x s=>simp only [p];rfl
end
theorem kp{a:Nat}(h:a<=b):eH a b=a:=by unfold eH;rw [Xh h];rfl
theorem wX{a:Nat}(h:b<=a):eH a b=b:=by
 unfold eH;cases c:Yd a b with
 |false=>rfl|true=>have:=lbt c;show a=b;omega
theorem wY{X Z:Value}{c:Nat}(e:c<=k):lay (XS n X++XS k Z) n (XS c X)=XS (n+c) X++XS (k-c) Z:=by
 refine Xu fun j=>?_;rw [kY (by simp;omega),Yo,X3,X3,Yo,Yo,XN,XN,XN,XN,XN];by_cases a:j<n
 . rw [if_neg (by omega),if_pos a,if_pos a,if_pos (by omega),if_pos (by omega)]
 . by_cases b:j<n+c
   . rw [if_pos (by omega),if_pos (by omega),if_pos b,if_pos b]
   . rw [if_neg (by omega),if_neg a,if_neg b];by_cases d:j-n<k
     . rw [if_pos d,if_pos (by omega)]
     . rw [if_neg d,if_neg (by omega)]
theorem mG(z:Value): ∀n,bz [z] n=XS n z
 |0=>rfl|n+1=>by simp [bz,mG z n,YM]
def ClF(O:List Nat)(f:Int->Option Value):Prop:= ∀u:Nat,f (u:Int)=if u∈O then some (.int .i64 1)else none
section
variable{M:Nat->Prop}{h0 h h':Hp}{L L':List (Nat×Ob)}{G G':List GL}{Fh:List Nat}
theorem St.baseF(S:St M h0 h L G)(Fh:List Nat):St (fun c=>c∈keys L G\/c∈Fh) h h L G:=
 ⟨Mo.refl S.ok,fun p a=>⟨.inr (.inl (oR a)),(S.own p a).2⟩,fun p a=>⟨(S.gown p a).1,fun b d=>.inr (.inl (mQ a d))⟩,S.apart⟩
theorem St.rebaseF(S:St M h0 h L G)(e: ∀c∈Fh,h0.n<=c\/M c)(T:St (fun c=>c∈keys L G\/c∈Fh) h h' L' G'):St M h0 h' L' G':=by have f: ∀b,h.n<=b\/(b∈keys L G\/b∈Fh)->h0.n<=b\/M b:=fun b a=>a.elim (fun a=>.inl (Xl S.fr.n a)) (fun a=>a.elim S.key_own (e b));exact⟨S.fr.trans T.fr fun b a=>(a.elim S.key_own (e b)).symm,fun p d=>⟨f _ (T.own p d).1,(T.own p d).2⟩,fun p d=>⟨(T.gown p d).1,fun b a=>f b ((T.gown p d).2 b a)⟩,T.apart⟩
theorem St.callF(S:St M h0 h L G){o o':Ob}(l:L[i]? =some (b,o))(f:Mo (fun c=>c∈Fh\/c=b) h h')(m: ∀c∈Fh,(M c\/h0.n<=c)/\c∉keys L G)(r:Has h' b o'):St M h0 h' (L.set i (b,o')) G:=by
 have s:=S.own _ (zM l);have g:(keys L G)[i]? =some b:=lg l;refine⟨S.fr.trans f (fun c k=>by grind),fun p a=>?_,fun p a=>⟨(S.gown p a).1.of_get fun c k=>?_,(S.gown p a).2⟩,?_⟩
 . rcases nY a with rfl|⟨j,n,a⟩
   . grind
   . have d:=S.own p (zM a);refine⟨d.1,d.2.of_get (f.get _ (d.2.lt S.ok) fun e=>?_)⟩;rcases e with e|e
     . exact(m _ e).2 (oR (zM a))
     . apply n;have q:(keys L G)[j]? =some b:=(by rw [lg a];rw [e]);exact sk S.apart q g
 . refine f.get c ((S.gown p a).1.lt S.ok k) fun e=>?_;rcases e with e|e
   . exact(m _ e).2 (mQ a k)
   . subst e;have d:=S.apart;unfold keys at d;rw [XR]at d;exact d.2.2 c (List.mem_map.2 ⟨_,zM l,rfl⟩) c (List.mem_filterMap.2 ⟨p,a,k⟩) rfl
 . have:keys (L.set i (b,o')) G=keys L G:=(by unfold keys;congr 1;rw [List.map_set];refine Xu fun j=>?_;grind);rw [this];exact S.apart
theorem St.stepF(S:St M h0 h L G)(f:Mo (· ∈Fh) h h')(b: ∀c∈Fh,(M c\/h0.n<=c)/\c∉keys L G):St M h0 h' L G:=
 S.step f (fun c a=>(b c a).1) (fun c a d=>(b c d).2 a)
end
theorem St.mono{M M':Nat->Prop}{d h:Hp}{L:List (Nat×Ob)}{G:List GL}(S:St M d h L G)(c: ∀b,M b->M' b):St M' d h L G:=
 ⟨S.fr.mono c,fun p a=>⟨(S.own p a).1.imp (fun h=>h) (c _),(S.own p a).2⟩,fun p a=>⟨(S.gown p a).1,fun b e=>((S.gown p a).2 b e).imp (fun h=>h) (c _)⟩,S.apart⟩
theorem Dj.exm{s:Nat}{O:List Nat}{D:Nat->Nat}{b:Arc->Prop}(d:Dj B s N O D K b)(h: ∀a∈B,b a->ex' a):Dj B s N O D K ex':=
 ⟨d.i1,d.i2,d.i2f,d.i3,fun a c e f=>d.i4 a c e (fun g=>f (h a c g)),d.i5,d.nd,d.lt⟩
def vu:Value->Option Tch
 | .map (some r)=>some (.blk r)| .slice (some a) _ _=>some (.blk a.block)|_=>none
theorem uB{b:Bool}{x y:Operand}{ts:Array TypeId}:dq ρ b (.call ⟨.builtin .append,#[x,y],ts⟩) h h'=vu (ρ x):=by simp only [dq,eo,lV,gU,touch,cond_false];cases ρ x<;>first|rfl|(rename_i x;cases x<;>rfl)|(rename_i x _ _;cases x<;>rfl)
theorem yB{x:Option Tch}:my x none=true:=by
 cases x with
 |none=>rfl|some b=>cases b<;>rfl
theorem tN:di i []=none:=rfl
def SlW(h:Hp)(kd:IntKind)(v:Value)(xs:List Int):Prop:=(v=.slice none 0 0/\xs=[])\/ ∃b o c,v=.slice (some ⟨b,o,none⟩) xs.length c/\xs.length<=c/\h.load b o (xs.length*1)=some (xs.flatMap (encI kd))
theorem SlW.sl(s:SlW h kd v xs):aH h 1 (encI kd) v xs:=s.imp (fun h=>h) (fun⟨b,o,c,a,d,e⟩=>⟨b,o,none,c,a,d,e⟩)
theorem SlW.low{kd':IntKind}{t e:TypeId}(g:E.und t=some (.slice e))(hs:E.sz e=some 1)(s:SlW h kd v xs)(a:n<=xs.length):
 ∃v',cK E t v none (some (.int kd' (n:Int))) none=some v'/\aH h 1 (encI kd) v' (xs.take n)/\ ∀c,az v' c->az v c:=by
 have f: ∀n:Nat,fI (n:Int)=some n:=fun n=>rfl;rcases s with⟨rfl,rfl⟩|⟨b,o,c,rfl,j,k⟩
 . have:n=0:=(by simpa using a);subst this;refine⟨.slice none 0 0,?_,.inl ⟨rfl,rfl⟩,fun c d=>d⟩;simp only [cK,g,dE,ef,f,hs];rfl
 . refine⟨.slice (some ⟨b,o,none⟩) n c,?_,.inr ⟨b,o,none,c,?_,?_,?_⟩,fun c d=>d⟩
   . simp only [cK,g,dE,ef,f,Xh (Xl a j),cond_true,hs,Xr,cond_false,Yq,iE,Xk,Yy];by_cases d:c=0
     . subst d;rfl
     . rw [show XY c 0=false by cases c with|zero=>exact absurd rfl d|succ c=>rfl];rfl
   . rw [Xo,YG a]
   . rw [Xo,YG a];exact Xl a j
   . rw [Xo,YG a];have:=dH k (i:=0) (m:=n*1) (by omega);rw [Yy,Xz]at this;rw [this];congr 1;refine Xu fun i=>?_;have e4: ∀l:List Int,l.flatMap (encI kd)=l.map fun x=>.int kd x:=fun l=>(by rw [XZ,YN,XZ];rfl);rw [e4,e4,Xb,List.map_take]
def iota(k:Nat):List Int:=(Xa k).map fun(i:Nat)=>(i:Int)
theorem tV(k:Nat):(iota k).length=k:=by simp [iota]
theorem uU(k:Nat):iota (k+1)=iota k++[(k:Int)]:=by simp [iota,Yp]
theorem pos_app(l:List Int)(x y:Int):pos (l++[y]) x=match pos l x with|some i=>some i|none=>if x=y then some l.length else none:=by
 induction l with
 |nil=>simp [pos]| cons z a b=>
   rw [Yj,pos,pos];by_cases h:x=z
   . rw [if_pos h,if_pos h]
   . rw [if_neg h,if_neg h,b];cases pos a x with
     |some i=>rfl|none=>by_cases c:x=y<;>simp [c]
theorem rE(k j:Nat):pos (iota k) (j:Int)=if j<k then some j else none:=by
 induction k with
 |zero=>rfl| succ k a=>
   rw [uU,pos_app,a,tV];by_cases h:j<k
   . rw [if_pos h,if_pos (show j<k+1 by omega)]
   . rw [if_neg h];by_cases b:j=k
     . subst b;simp
     . have: ¬((j:Int)=(k:Int)):=(by omega);simp only [this,if_false];rw [if_neg (by omega)]
theorem pos_lt{l:List Int}(h:pos l x=some i):i<l.length:=by
 induction l generalizing i with
 |nil=>cases h
 | cons y b c=>
   rw [pos]at h;by_cases e:x=y
   . rw [if_pos e]at h;cases h;simp
   . rw [if_neg e]at h;cases a:pos b x with
     |none=>rw [a]at h;cases h
     |some j=>rw [a]at h;cases h;have:=c a;simp;omega
theorem norm_idem(ks l:List Int):norm (iota ks.length) (norm ks l)=norm ks l:=by
 induction l generalizing ks with
 |nil=>rfl| cons x c a=>
   rw [norm,norm];unfold nu oG;cases b:pos ks x with
   | some i=>simp only [];rw [rE,if_pos (pos_lt b)];simp only [];rw [a]| none=>simp only [];rw [rE,if_neg (by omega)];simp only [];rw [tV,<-uU];have:=a (ks++[x]);rw [Xf,Yl]at this;rw [this]
theorem norm_bd(ks l:List Int): ∀x∈norm ks l,0<=x/\x<=((ks.length+l.length:Nat):Int):=by
 induction l generalizing ks with
 |nil=>intro x a;cases a
 | cons y e b=>
   intro x a;rw [norm]at a;rcases List.mem_cons.1 a with rfl|a
   . have:nu ks y<=ks.length:=by
      unfold nu;cases c:pos ks y with
      |some i=>exact Nat.le_of_lt (pos_lt c)|none=>exact Xx _
     simp;omega
   . have d:=b _ x a;have:(oG ks y).length<=ks.length+1:=(by unfold oG;cases pos ks y<;>simp);simp at d⊢;omega
theorem fold_bd(K:Int)(l:List Int)(a:Int)(b:0<=a/\a<=K)(h: ∀x∈l,0<=x/\x<=K):0<=l.foldl max a/\l.foldl max a<=K:=by
 induction l generalizing a with
 |nil=>exact b| cons x e c=>
   have f:=h x (by simp);exact c (max a x) (by omega) (fun y d=>h y (by simp [d]))
theorem lmax_bd{K:Int}(a:0<=K){l:List Int}(h: ∀x∈l,0<=x/\x<=K):0<=gu l/\gu l<=K:=by
 cases l with
 |nil=>exact⟨Int.le_refl _,a⟩|cons x b=>exact fold_bd K b x (h x (by simp)) (fun y c=>h y (by simp [c]))
def scan:Nat->List Int->Option Nat
 |k,[]=>some k|k,x::a=>if x<0\/(k:Int)<x then none else if x=(k:Int)then scan (k+1) a else scan k a
theorem AF(l:List Int): ∀k,norm (iota k) l=l↔(scan k l).isSome=true:=by
 induction l with
 |nil=>intro k;simp [norm,scan]| cons x f c=>
   intro k;rw [norm,scan];by_cases a:x<0\/(k:Int)<x
   . rw [if_pos a];simp only [Xr,Bool.false_eq_true,iff_false];intro e;have b:=(List.cons.inj e).1;rcases a with h|h
     . omega
     . obtain⟨j,rfl⟩: ∃j:Nat,x=(j:Int):=⟨x.toNat,by omega⟩;unfold nu at b;rw [rE,if_neg (by omega)]at b;simp only [tV]at b;omega
   . rw [if_neg a];obtain⟨j,rfl⟩: ∃j:Nat,x=(j:Int):=⟨x.toNat,by omega⟩;unfold nu oG;by_cases d:(j:Int)=(k:Int)
     . have:j=k:=(by omega);subst this;rw [if_pos rfl,rE,if_neg (by omega)];simp only [tV];rw [<-uU,<-c (j+1)];exact⟨fun e=>(List.cons.inj e).2,fun e=>by rw [e]⟩
     . rw [if_neg d,rE,if_pos (by omega)];simp only [];rw [<-c k];exact⟨fun e=>(List.cons.inj e).2,fun e=>by rw [e]⟩
theorem scan_max(l:List Int): ∀k m,scan k l=some m->k<=m/\l.foldl max ((k:Int)-1)=(m:Int)-1:=by
 induction l with
 |nil=>intro k m e;cases e;exact⟨Xx _,rfl⟩
 | cons x g c=>
   intro k m e;rw [scan]at e;by_cases d:x<0\/(k:Int)<x
   . rw [if_pos d]at e;cases e
   . rw [if_neg d]at e;rw [List.foldl_cons];by_cases f:x=(k:Int)
     . rw [if_pos f]at e;obtain⟨a,b⟩:=c _ _ e;refine⟨by omega,?_⟩;rw [show max ((k:Int)-1) x=((k+1:Nat):Int)-1 by omega];exact b
     . rw [if_neg f]at e;obtain⟨a,b⟩:=c _ _ e;refine⟨a,?_⟩;rw [show max ((k:Int)-1) x=(k:Int)-1 by omega];exact b
theorem zF{l:List Int}(h:scan 0 l=none):me l:=.inr (.inl fun e=>by
 have:=(AF l 0).1 e;rw [h]at this;cases this)
theorem Br{l:List Int}(h:scan 0 l=some k):(me l↔k=0\/256<k)/\(k≠0->gu l+1=(k:Int)):=by
 have g:norm [] l=l:=(AF l 0).2 (by rw [h];rfl);cases l with
 |nil=>cases h;exact⟨⟨fun _=>.inl rfl,fun _=>.inl rfl⟩,fun h=>absurd rfl h⟩
 | cons x d=>
   rw [scan]at h;by_cases f:x<0\/((0:Nat):Int)<x
   . rw [if_pos f]at h;cases h
   rw [if_neg f,if_pos (by omega)]at h;obtain⟨a,b⟩:=scan_max _ _ _ h;have e:gu (x::d)+1=(k:Int):=(by have:x=((0+1:Nat):Int)-1:=(by omega);show d.foldl max x+1=(k:Int);rw [this,b];omega);refine⟨⟨fun c=>?_,fun c=>?_⟩,fun _=>e⟩
   . rcases c with c|c|c
     . cases c
     . exact absurd g c
     . omega
   . exact .inr (.inr (by omega))
theorem many23_ok{g:Hp}(t:OZ g){l:List Int}(f:aH g 1 (encI .i64) v l)(z:l.length<1000000):Ret zB 148 [v] g fun r h'=>Gr g h'/\ ∃n:Nat,r=.int .i64 n/\(n=0↔me l)/\(n≠0->gu l+1=(n:Int))/\n<=256:=by
 have S:=Si t;refine erA (n:=35) (rs:=[.tmp 2]) Tryz.e148 ?_;simp only [BZ];refine aF (fun(i:Nat) p h=>i<=l.length/\Gr g h/\p 0=v/\ ∃k:Nat,k<=i/\scan 0 l=scan k (l.drop i)/\p 3=.int .i64 k/\p 4=.int .i64 i) (fun i=>l.length-i) ?_ 0 _ _ ?_
 . clear S;intro i u p h ⟨hi,S,r0,k,hk,hs,r3,r4⟩;have w:am .i64 ((i:Int)+1)=((i+1:Nat):Int):=(by rw [wrap64]<;>omega);have y:am .i64 ((k:Int)+1)=((k+1:Nat):Int):=(by rw [wrap64]<;>omega);by_cases hlt:i<l.length
   . obtain⟨q,o,d,e⟩:=(f.gr S).ix (kd:=.i64) (aE .i64) hlt;rw [Ya hlt,scan]at hs;simp only [encI]at e;generalize l[i]=x at e hs;by_cases j:x<0
     . rw [if_pos (.inl j)]at hs;simp only [BZ,ab,r0,r4,f.lenq,aq,hlt,d,e,j,seval];exact⟨S,0,rfl,by simp only [true_iff];exact zF hs,fun h=>absurd rfl h,by omega⟩
     by_cases m:(k:Int)<x
     . rw [if_pos (.inr m)]at hs;simp only [BZ,ab,r0,r3,r4,f.lenq,aq,hlt,d,e,j,m,seval];exact⟨S,0,rfl,by simp only [true_iff];exact zF hs,fun h=>absurd rfl h,by omega⟩
     rw [if_neg (fun h=>h.elim j m)]at hs;by_cases s:x=(k:Int)
     . rw [if_pos s]at hs;simp only [BZ,r0,r3,r4,f.lenq,aq,hlt,d,e,j,m,seval];rw [s];simp only [BZ,r3,r4,w,y,seval];exact u (i+1) _ _ (by omega) ⟨by omega,S,by simp [ao,r0],k+1,by omega,hs,by simp [ao]⟩
     . rw [if_neg s]at hs;simp only [BZ,r0,r3,r4,f.lenq,aq,hlt,d,e,j,m,s,w,seval];exact u (i+1) _ _ (by omega) ⟨by omega,S,by simp [ao,r0],k,by omega,hs,by simp [ao,r3]⟩
   . rw [List.drop_eq_nil_of_le (by omega),scan]at hs;obtain⟨a,b⟩:=Br hs;by_cases c:(256:Int)<(k:Int)
     . simp only [BZ,ab,r0,r3,r4,f.lenq,aq,hlt,c,seval];exact⟨S,0,rfl,by rw [a];exact⟨fun _=>.inr (by omega),fun _=>rfl⟩,fun h=>absurd rfl h,by omega⟩
     . simp only [BZ,ab,r0,r3,r4,f.lenq,aq,hlt,c,seval];exact⟨S,k,rfl,by rw [a];exact⟨fun h=>.inl h,fun h=>h.elim id (fun h=>by omega)⟩,b,by omega⟩
 . exact⟨Xv _,Gr.refl t,by simp [ao,cy],0,Xx _,rfl,by simp [ao]⟩
theorem xz{b:Hp}(h:OZ b){a w:Nat}(q:a<=300)(r:w<=1000):cj zB 198 [.int .i64 a,.int .i64 w] b (.bool true):=by
 have S:=Si h;have d:(0:Int)<=(a:Int):=by omega
 have i:(0:Int)<=(w:Int):=by omega
 have j:(w:Int)<=67108864:=by omega
 by_cases e:(w:Int)=0
 . refine erA (n:=27) (rs:=[.tmp 4]) Tryz.e198 ?_;simp only [BZ,ab,d,e,seval];exact S.gr
 have k:am .i64 ((w:Int)+7)=((w+7:Nat):Int):=by rw [wrap64]<;>omega
 have f:(w+7)/8<=126:=by omega
 have c:1<=(w+7)/8:=by omega
 have g:am .i64 ((((w+7:Nat):Int)).tdiv 8)=(((w+7)/8:Nat):Int):=by rw [X6 (by omega),show(((w+7:Nat):Int)/8)=(((w+7)/8:Nat):Int) by omega,wrap64]<;>omega
 generalize(w+7)/8=K at f c g;have l:(268435456:Int).tdiv (K:Int)=((268435456/K:Nat):Int):=by rw [X6 (by decide)];rfl
 have s:268435456/126<=268435456/K:=Nat.div_le_div_left f (by omega);have t:268435456/K<=268435456:=Nat.div_le_self _ _;have u:(268435456/126:Nat)=2130440:=rfl;have m:am .i64 ((268435456:Int).tdiv (K:Int))=(268435456:Int).tdiv (K:Int):=by rw [l,wrap64]<;>omega
 have o:(a:Int)<=(268435456:Int).tdiv (K:Int):=by omega
 have p:(K:Int)≠0:=by omega
 refine erA (n:=27) (rs:=[.tmp 4]) Tryz.e198 ?_;simp only [BZ,ab,d,i,j,e,k,g,m,o,eC (n:=8) (by decide),eC (n:=(K:Int)) p,seval];exact S.gr
def jR(r:Nat):Nat:=(r>>>1) ^^^(if r%2=1 then 3988292384 else 0)
def dU:Nat->Nat->Nat
 |0,r=>r|k+1,r=>dU k (jR r)
theorem AL(k r:Nat):dU (k+1) r=jR (dU k r):=by
 induction k generalizing r with
 |zero=>rfl|succ k a=>exact a (jR r)
theorem crcN_add(j k r:Nat):dU (j+k) r=dU j (dU k r):=by
 induction k generalizing r with
 |zero=>rfl|succ k a=>exact a (jR r)
theorem crcS_xor(a b:Nat):jR (a ^^^b)=jR a ^^^jR b:=by
 unfold jR;rw [Nat.shiftRight_xor_distrib,show(a ^^^b)%2=(a%2) ^^^(b%2)from Nat.xor_mod_two_pow (n:=1)];rcases Yu a with c|c<;>rcases Yu b with d|d<;>
  simp only [c,d,Nat.xor_self,YP,Nat.zero_xor,if_true,if_false,seval]
 . ac_rfl
 . ac_rfl
 . rw [show a>>>1 ^^^3988292384 ^^^(b>>>1 ^^^3988292384)=a>>>1 ^^^b>>>1 ^^^(3988292384 ^^^3988292384) by ac_rfl,Nat.xor_self,YP]
theorem BH(k a b:Nat):dU k (a ^^^b)=dU k a ^^^dU k b:=by
 induction k generalizing a b with
 |zero=>rfl|succ k c=>show dU k _=dU k _ ^^^dU k _;rw [crcS_xor,c]
theorem BF(k x:Nat):dU k (2 ^k*x)=x:=by
 induction k generalizing x with
 |zero=>show 2 ^0*x=x;omega| succ k a=>have:jR (2 ^(k+1)*x)=2 ^k*x:=(by unfold jR;have e:2 ^(k+1)*x=2*(2 ^k*x):=(by rw [Yz,YA _ 2,Nat.mul_assoc]);rw [e,if_neg (by omega),YP,Xy];omega);show dU k (jR _)=x;rw [this,a]
theorem split_pow(k r:Nat):r=(2 ^k*(r/2 ^k)) ^^^(r%2 ^k):=by
 refine YK fun i=>?_;rw [Nat.testBit_xor,YE,XT,YF];by_cases h:k<=i
 . simp [h,Nat.not_lt.2 h,Nat.sub_add_cancel h]
 . simp [h,Nat.lt_of_not_le h]
theorem yh(k r:Nat):dU k r=(r>>>k) ^^^dU k (r%2 ^k):=by have:=BH k (2 ^k*(r/2 ^k)) (r%2 ^k);rw [<-split_pow,BF,<-Xy]at this;exact this
theorem crcS_lt(h:r<4294967296):jR r<4294967296:=by
 unfold jR;refine XU (n:=32) ?_ ?_
 . rw [Xy];omega
 . split<;>decide
theorem wQ(h:r<4294967296):dU k r<4294967296:=by
 induction k generalizing r with
 |zero=>exact h|succ k a=>exact a (crcS_lt h)
theorem crcN_bit(j r b:Nat):dU (j+1) (r ^^^(b%2 ^(j+1)))=jR (dU j (r ^^^(b%2 ^j)) ^^^(b/2 ^j%2)):=by
 rw [AL];congr 1;have e:b%2 ^(j+1)=(b%2 ^j) ^^^(2 ^j*(b/2 ^j%2)):=by
  refine YK fun i=>?_;rw [Nat.testBit_xor,YE,XT,XT,show b/2 ^j%2=(b/2 ^j)%2 ^1 from rfl,XT,YF];rcases Nat.lt_trichotomy i j with h|h|h
  . simp [show i<j+1 by omega,h,show¬j<=i by omega]
  . subst h;simp
  . simp [show¬i<j+1 by omega,show¬i<j by omega,show j<=i by omega,show¬i-j<1 by omega]
 rw [e,<-Nat.xor_assoc,BH,BF]
def crcB(r b:Nat):Nat:=dU 8 (r ^^^b)
def oP(r:Nat)(l:List UInt8):Nat:=l.foldl (fun r b=>crcB r b.toNat) r
def crc(l:List UInt8):Nat:=4294967295 ^^^oP 4294967295 l
theorem oI(b:UInt8):b.toNat<256:=b.toNat_lt
theorem crcB_lt{b:UInt8}(h:r<4294967296):crcB r b.toNat<4294967296:=
 wQ (XU (n:=32) h (Nat.lt_trans (oI b) (by decide)))
theorem sY{l:List UInt8}(h:r<4294967296):oP r l<4294967296:=by
 induction l generalizing r with
 |nil=>exact h|cons b l a=>exact a (crcB_lt h)
theorem crc_lt(l:List UInt8):crc l<4294967296:=XU (n:=32) (by decide) (sY (by decide))
theorem xq(r:Nat)(l m:List UInt8):oP r (l++m)=oP (oP r l) m:=List.foldl_append
theorem Do(r b:Nat):crcB r b=(((r ^^^b)>>>4) ^^^dU 4 ((r ^^^b)%16))>>>4 ^^^dU 4 ((((r ^^^b)>>>4) ^^^dU 4 ((r ^^^b)%16))%16):=by unfold crcB;rw [show(8:Nat)=4+4 from rfl,crcN_add,yh 4 (dU 4 _),yh 4 (r ^^^b)]
abbrev Bs:=List UInt8
variable{s:Bs}
def bW:Nat->Nat->Bs
 |0,_=>[]|k+1,n=>UInt8.ofNat n::bW k (n/256)
def aQ:Bs->Nat
 | []=>0|b::l=>b.toNat+256*aQ l
theorem bV(k n:Nat):(bW k n).length=k:=by
 induction k generalizing n with
 |zero=>rfl|succ k a=>simp [bW,a]
theorem jY(l:Bs):aQ l<256 ^l.length:=by
 induction l with
 |nil=>simp [aQ]| cons b l a=>have:=oI b;simp only [aQ,XJ,Yz];omega
theorem Dw(l m:Bs):aQ (l++m)=aQ l+256 ^l.length*aQ m:=by
 induction l with
 |nil=>simp [aQ]| cons b l a=>simp only [Yj,aQ,a,XJ,Yz];rw [Nat.mul_add,YA (256 ^l.length) 256,Nat.mul_assoc];omega
theorem wS(h:i<k):(bW k n)[i]? =some (UInt8.ofNat (n/256 ^i)):=by
 induction k generalizing n i with
 |zero=>omega| succ k a=>
   cases i with
   |zero=>simp [bW]| succ i=>show(bW k (n/256))[i]? =_;rw [a (by omega),XV,show 256 ^(i+1)=256*256 ^i by rw [Yz,YA]]
def fi:Bs:=[77,73,76,69,49,1]
abbrev Sec:=Nat×Bs
def entB(x:Sec):Bs:=bW 1 x.1++(bW 8 x.2.length++bW 4 (crc x.2))
def pR(l:List Sec):Bs:=fi++(bW 1 l.length++l.flatMap entB)
def encF(l:List Sec):Bs:=pR l++(bW 4 (crc (pR l))++l.flatMap Prod.snd)
abbrev Ent:=Nat×Nat×Nat
def entD(s:Bs):Ent:=(aQ (s.take 1),aQ ((s.drop 1).take 8),aQ ((s.drop 9).take 4))
def rO:Nat->Bs->List Ent
 |0,_=>[]|k+1,s=>entD s::rO k (s.drop 13)
def oN:List Ent->Bs->Option (List Sec)
 | [],_=>some []|(k,n,c)::a,s=>if crc (s.take n)=c then(oN a (s.drop n)).map ((k,s.take n):: ·)else none
def bo(s:Bs):Nat:=aQ ((s.drop 6).take 1)
def jG(s:Bs):Prop:=s.take 6=fi/\7<=s.length/\bo s<=16/\11+13*bo s<=s.length/\aQ ((s.drop (7+13*bo s)).take 4)=crc (s.take (7+13*bo s))/\
 ((rO (bo s) (s.drop 7)).map (·.2.1)).sum=s.length-(11+13*bo s)
noncomputable instance (s:Bs):Decidable (jG s):=Classical.propDecidable _
noncomputable def kL(s:Bs):Except Bool (List Sec):=
 if jG s then match oN (rO (bo s) (s.drop 7)) (s.drop (11+13*bo s))with
  |some l=>.ok l|none=>.error true
 else .error false
theorem entB_len(x:Sec):(entB x).length=13:=by simp [entB,bV]
theorem AO(l:List Sec):(l.flatMap entB).length=13*l.length:=by
 induction l with
 |nil=>rfl|cons x l a=>rw [Yg,Xf,entB_len,a,XJ];omega
theorem AG(l:List Sec):(pR l).length=7+13*l.length:=by simp only [pR,Xf,bV,AO,fi,XJ,X9];omega
def secOk(x:Sec):Prop:=x.1<256/\x.2.length<18446744073709551616
theorem tH(l:List Sec):(encF l).length=11+13*l.length+(l.flatMap Prod.snd).length:=by unfold encF;rw [Xf,Xf,AG,bV];omega
def u64(x:Int):Nat:=(x%18446744073709551616).toNat
def i64(n:Nat):Int:=if n<9223372036854775808 then n else n-18446744073709551616
theorem u64_lt(x:Int):u64 x<256 ^8:=by unfold u64;omega
def put8(x:Int):Bs:=bW 8 (u64 x)
def get8(s:Bs):Int:=i64 (aQ s)
theorem tI(x:Int):(put8 x).length=8:=bV 8 _
def jL{a:Type}(f:Bs->a)(w:Nat):Nat->Bs->List a
 |0,_=>[]|k+1,s=>f (s.take w)::jL f w k (s.drop w)
theorem ky{a:Type}(f:Bs->a)(w k:Nat)(s:Bs):(jL f w k s).length=k:=by
 induction k generalizing s with
 |zero=>rfl|succ k b=>simp [jL,b]
theorem numsD_at{a:Type}(f:Bs->a)(w:Nat)(s:Bs)(h:i<k):(jL f w k s)[i]? =some (f ((s.drop (w*i)).take w)):=by
 induction k generalizing s i with
 |zero=>omega| succ k b=>
   cases i with
   |zero=>simp [jL]| succ i=>show(jL f w k (s.drop w))[i]? =_;rw [b _ (by omega),List.drop_drop,show w+w*i=w*(i+1) by rw [Nat.mul_succ];omega]
theorem iF{a:Type}{p:a->Bs}{w:Nat}(b: ∀x,(p x).length=w)(l:List a):(l.flatMap p).length=w*l.length:=by
 induction l with
 |nil=>rfl|cons x l c=>rw [Yg,Xf,b,c,XJ,Nat.mul_succ];omega
def xyB(p:Int×Int):Bs:=put8 p.1++put8 p.2
def xyG(s:Bs):Int×Int:=(get8 (s.take 8),get8 ((s.drop 8).take 8))
def arcB(a:Arc):Bs:=bW 4 a.s++(bW 4 a.t++bW 4 a.w)
def arcG(s:Bs):Arc:=⟨aQ (s.take 4),aQ ((s.drop 4).take 4),aQ ((s.drop 8).take 4)⟩
theorem wP(p:Int×Int):(xyB p).length=16:=by simp [xyB,tI]
theorem xE(a:Arc):(arcB a).length=12:=by simp [arcB,bV]
def j7(a:Gra):Bs:=bW 4 a.nodes++(bW 4 a.arcs.length++((a.X.zip a.Y).flatMap xyB++a.arcs.flatMap arcB))
def kf(s:Bs):Nat:=aQ (s.take 4)
def qS(s:Bs):Nat:=aQ ((s.drop 4).take 4)
def dh(s:Bs):Gra:=⟨kf s,(jL xyG 16 (kf s) (s.drop 8)).map XQ,(jL xyG 16 (kf s) (s.drop 8)).map Prod.snd,jL arcG 12 (qS s) (s.drop (8+16*kf s))⟩
structure jD(s:Bs):Prop where
 l8:8<=s.length
 n2:kf s<=16777216
 m2:qS s<=67108864
 len:s.length=8+16*kf s+12*qS s
theorem hf_u{k:IntKind}(h:sgn k=false):hf k=pw k:=by cases k<;>first|rfl|cases h
theorem wrapN{k:IntKind}(h:sgn k=false)(n:Nat):am k (n:Int)=((n%pw k:Nat):Int):=by
 show am k (.ofNat n)=_;simp only [am,hf_u h,h];cases a:Ye n (pw k)with
 |true=>rw [Yf]at a;rw [cond_true,XO a];rfl|false=>rfl
theorem cu{k:IntKind}(h:sgn k=false)(a:n<pw k):am k (n:Int)=(n:Int):=by rw [wrapN h,XO a]
section
variable{E:Env}{t:TypeId}{p q:Operand}{x y:Nat}{k k':IntKind}
theorem bitsU(op:BinOp)(a:x<pw k)(b:y<pw k):jh op k (x:Int) (y:Int)=match op with
 | .and=>some (am k ((x&&& y:Nat):Int))| .or=>some (am k ((x|||y:Nat):Int))
 | .xor=>some (am k ((x ^^^y:Nat):Int))| .andNot=>some (am k ((x ^^^(x&&& y):Nat):Int))|_=>none:=by
 show jh op k (.ofNat x) (.ofNat y)=_;have c:Ye x (pw k)=true:=by rw [Yf];exact a
 have d:Ye y (pw k)=true:=by rw [Yf];exact b
 unfold jh;simp only [c,d,Bool.and_self,cond_true];cases op<;>rfl
theorem pw_two(k:IntKind):pw k=2 ^bitsOf k:=by cases k<;>rfl
theorem tB(h:sgn k=false)(a:x<pw k)(b:y<pw k):bI E .and t p q (.int k (x:Int)) (.int k (y:Int))=some (.int k ((x&&& y:Nat):Int)):=by show(bif ki k k then(jh .and k (x:Int) (y:Int)).map (Value.int k ·)else none)=_;rw [bitsU .and a b,fP];simp only [cu h (Nat.lt_of_le_of_lt Nat.and_le_left a)];rfl
theorem b_orN(h:sgn k=false)(a:x<pw k)(b:y<pw k):bI E .or t p q (.int k (x:Int)) (.int k (y:Int))=some (.int k ((x|||y:Nat):Int)):=by
 show(bif ki k k then(jh .or k (x:Int) (y:Int)).map (Value.int k ·)else none)=_;have:x|||y<pw k:=by rw [pw_two]at a b⊢;exact Nat.or_lt_two_pow a b
 rw [bitsU .or a b,fP];simp only [cu h this];rfl
theorem uL(h:sgn k=false)(a:x<pw k)(b:y<pw k):bI E .xor t p q (.int k (x:Int)) (.int k (y:Int))=some (.int k ((x ^^^y:Nat):Int)):=by
 show(bif ki k k then(jh .xor k (x:Int) (y:Int)).map (Value.int k ·)else none)=_;have:x ^^^y<pw k:=by rw [pw_two]at a b⊢;exact XU a b
 rw [bitsU .xor a b,fP];simp only [cu h this];rfl
theorem tq(a:y<=bitsOf k):bI E .shr t p q (.int k (x:Int)) (.int k' (y:Int))=some (.int k ((x>>>y:Nat):Int)):=by show(ol .shr k (.ofNat x) (.ofNat y)).map (Value.int k ·)=_;simp only [ol,fI,Xh a,cond_true,shrI,XD];rw [Xy];rfl
theorem yw(h:sgn k=false)(a:y<=bitsOf k):bI E .shl t p q (.int k (x:Int)) (.int k' (y:Int))=some (.int k ((x*2 ^y%pw k:Nat):Int)):=by show(ol .shl k (x:Int) (.ofNat y)).map (Value.int k ·)=_;simp only [ol,fI,Xh a,cond_true,XD];rw [show(x:Int)*Yn (Nat.pow 2 y)=((x*2 ^y:Nat):Int) by rw [Int.natCast_mul];rfl,wrapN h]
theorem u_xorU(h:sgn k=false)(a:x<pw k):unP .xor (.int k (x:Int))=some (.int k (((pw k-1) ^^^x:Nat):Int)):=by
 have c:0<pw k:=by cases k<;>decide
 have:(pw k-1) ^^^x<pw k:=by
  have b:pw k-1<pw k:=by omega
  rw [pw_two]at a b⊢;exact XU b a
 simp only [unP,h,cond_false];rw [show(Yn (pw k-1))=((pw k-1:Nat):Int)from rfl,bitsU .xor (by omega) a];simp only [cu h this];rfl
end
def sv(l:Bs):Value:=.string (ig l)
theorem fV(l:Bs):aS (ig l)=l:=rfl
theorem mJ(l:Bs):(ig l).size=l.length:=rfl
theorem fg{l:Bs}:Fl (sv l):=fl_str
def bQ(l:Bs):List Value:=l.map fun b=>.int .u8 (b.toNat:Int)
theorem dw(l:Bs):(bQ l).length=l.length:=by simp [bQ]
theorem kX(l m:Bs):bQ (l++m)=bQ l++bQ m:=by simp [bQ]
theorem qg(l:Bs):(bQ l).all iT=true:=by simp [bQ,iT]
theorem BY(l:Bs):bytesOf (bQ l)=some l:=by
 induction l with
 |nil=>rfl| cons b l a=>
   show(match bytesOf (bQ l)with|none=>none|some r=>some (UInt8.ofNat b.toNat::r))=_;rw [a];simp only [UInt8.ofNat_toNat]
section
variable{E:Env}{t e:TypeId}{p q:Operand}{h:Hp}{l m:Bs}
theorem cF:ot (some .string) h (sv l)=some (.val (.int .i64 (l.length:Int)),h):=rfl
theorem xa(l m:Bs):gz l m=decide (l=m):=by
 induction l generalizing m with
 |nil=>cases m<;>simp [gz]
 | cons a l c=>
   cases m with
   |nil=>simp [gz]|cons b m=>simp only [gz,c,List.cons.injEq];by_cases h:a=b<;>simp [h,UInt8.toNat_inj]
theorem iG(a:l.length+m.length<=1099511627776):bI E .add t p q (sv l) (sv m)=some (sv (l++m)):=by simp only [sv,bI,mJ,Xh a,cond_true,fV]
theorem Cc:bI E .eql t p q (sv l) (sv m)=some (.bool (decide (l=m))):=by simp only [sv,bI,fV,xa]
theorem b_neq_sv:bI E .neq t p q (sv l) (sv m)=some (.bool (!decide (l=m))):=by simp only [sv,bI,fV,xa]
theorem rq{k:IntKind}(h:i<n):iC (.int k (i:Int)) n=some i:=dz h
theorem jP(b:E.und t=some .string){k:IntKind}(a:i<l.length):mZ E t (sv l) (.int k (i:Int))=some (.int .u8 (l[i].toNat:Int)):=by simp only [sv,mZ,b,mJ,dz a,fV,Xn a];rfl
theorem qk{k:IntKind}(a:n<=y):ef (.int k (n:Int)) y=some n:=by show(match fI (.ofNat n)with|some n=>bif Yd n y then some n else none|none=>none)=_;simp only [fI,Xh a,cond_true]
theorem Ce(c:E.und t=some .string){k:IntKind}{a:Nat}(d:a<=b)(f:b<=l.length):cK E t (sv l) (some (.int k (a:Int))) (some (.int k' (b:Int))) none=some (sv ((l.take b).drop a)):=by simp only [sv,cK,c,Xr,cond_false,dE,mJ,qk f,qk d,fV];rw [<-List.drop_take]
theorem xi(a:E.und t=some .string){k:IntKind}(c:b<=l.length):cK E t (sv l) none (some (.int k (b:Int))) none=some (sv (l.take b)):=by simp only [sv,cK,a,Xr,cond_false,dE,mJ,qk c,fV,Xz,Yq]
theorem Bl(b:E.und t=some .string){k:IntKind}{a:Nat}(c:a<=l.length):cK E t (sv l) (some (.int k (a:Int))) none none=some (sv (l.drop a)):=by simp only [sv,cK,b,Xr,cond_false,dE,mJ,qk c,fV];rw [XE (by simp)]
theorem src_sv:aD h 1 (sv l)=some (l.length,bQ l):=rfl
def BySl(h:Hp)(v:Value)(l:Bs):Prop:=aH h 1 (fun(b:UInt8)=>[Value.int .u8 (b.toNat:Int)]) v l
theorem byF(l:Bs):l.flatMap (fun(b:UInt8)=>[Value.int .u8 (b.toNat:Int)])=bQ l:=by
 induction l with
 |nil=>rfl|cons b l a=>rw [Yg,a];rfl
theorem nR(s:BySl h v l):strOf h v=some (sv l):=by
 rcases s with⟨rfl,rfl⟩|⟨b,o,s,c,rfl,d,a⟩
 . rfl
 . rw [Xb,byF]at a;simp only [strOf,a,BY];rfl
end
theorem uP{t e:TypeId}{k:IntKind}(a:E.und t=some (.array n e))(hs:E.sz e=some 1)(h:many<=n):cK E t (.pointer (some ⟨b,0,none⟩)) none (some (.int k (many:Int))) none=some (.slice (some ⟨b,0,none⟩) many n):=by simp only [cK,a,hs,dE,qk h,Yq,Xk,Yy];cases XY n 0<;>rfl
theorem s7{t:TypeId}{p q:Operand}{k:IntKind}{x:Nat}(h:8<=bitsOf k):bI E .shr t p q (.int k (x:Int)) (.int k' 8)=some (.int k ((x>>>8:Nat):Int)):=tq (y:=8) h
theorem b_shr4{t:TypeId}{p q:Operand}{k:IntKind}{x:Nat}(h:4<=bitsOf k):bI E .shr t p q (.int k (x:Int)) (.int k' 4)=some (.int k ((x>>>4:Nat):Int)):=tq (y:=4) h
def pa(n i:Nat):List Value:=(Xa 8).map fun j=>.int .u8 ((if j<i then n/256 ^j%256 else 0:Nat):Int)
theorem pz(n i:Nat):(pa n i).length=8:=by simp [pa]
theorem xR:(pa n i).set i (.int .u8 ((n/256 ^i%256:Nat):Int))=pa n (i+1):=by
 unfold pa;have:=mg (N:=8) (k:=i) (F:=fun j=>Value.int .u8 ((if j<i then n/256 ^j%256 else 0:Nat):Int)) (F':=fun j=>Value.int .u8 ((if j<i+1 then n/256 ^j%256 else 0:Nat):Int)) (fun j _ a=>by
  by_cases h:j<i
  . rw [if_pos h,if_pos (by omega)]
  . rw [if_neg h,if_neg (by omega)])
 rw [<-this,if_pos (by omega)]
theorem vg(h:many<=8):(pa n 8).take many=bQ (bW many n):=by
 refine Xu fun j=>?_;unfold pa bQ;rw [List.getElem?_take,Xt,Xt];by_cases a:j<many
 . rw [if_pos a,Yr (by omega),wS a,XD,XD,if_pos (by omega)];simp
 . rw [if_neg a,Ym (l:=bW many n) (by rw [bV];omega)];rfl
theorem set_self{a:Type}{l:List a}{x:a}(h:l[i]? =some x):l.set i x=l:=by
 refine Xu fun j=>?_;rw [XX]
 split
 . rename_i e;subst e;have:=(List.getElem?_eq_some_iff.1 h).1;rw [if_pos this,h]
 . rfl
theorem gC{a:Type}{l:List a}{x y:a}(h:l[i]? =some y):(l.set i x)[i]? =some x:=by rw [XX,if_pos rfl,if_pos (List.getElem?_eq_some_iff.1 h).1]
theorem set_set{a:Type}{l:List a}{i:Nat}{x y:a}:(l.set i x).set i y=l.set i y:=List.set_set ..
theorem wrap_u64(x:Int):am .u64 x=(u64 x:Int):=by
 cases x with
 |ofNat m=>exact(wrapN rfl m).trans (by unfold u64;rw [show Yn m=(m:Int)from rfl];simp only [pw];omega)|negSucc m=>show((pw .u64-1-m%pw .u64:Nat):Int)=_;unfold u64;simp only [pw];omega
theorem wrap_i64(h:n<18446744073709551616):am .i64 (n:Int)=i64 n:=by
 show am .i64 (.ofNat n)=_;unfold i64;simp only [am,hf,pw,sgn,cond_true,XO h];by_cases a:n<9223372036854775808
 . have:Ye n 9223372036854775808=true:=(by rw [Yf];exact a);rw [this,if_pos a];rfl
 . have:Ye n 9223372036854775808=false:=by
    cases b:Ye n 9223372036854775808 with
    |false=>rfl|true=>rw [Yf]at b;omega
   rw [this,if_neg a];simp only [cond_false];omega
theorem St.bsl{e:Hp}{a:Nat}(S:St M e h ((a,.row (xs.flatMap (encI kd)) 1)::L) G):St M e h L G/\aH h 1 (encI kd) (.slice (some ⟨a,0,none⟩) xs.length xs.length) xs/\ ∀c,az (.slice (some ⟨a,0,none⟩) xs.length xs.length) c->c∉keys L G:=by
 refine⟨S.drop1,.inr ⟨a,0,none,xs.length,rfl,Xx _,?_⟩,fun c d f=>?_⟩
 . have:=S.lds (b:=a) (o:=0) (n:=xs.length*1) m0 (by rw [aG (aE kd)];omega);rw [Xz,XE (by rw [aG (aE kd)];omega)]at this;exact this
 . have d:a=c:=d;subst d;exact(List.nodup_cons.1 S.apart).1 f
theorem put8_ok{F:Hp}(S:St M F hq L G){l:Bs}(u:L[i]? =some (e,.row [v] 1))(y:G[j]? =some (v,1,bQ l))(H:aH hq 1 (encI .u8) f xs)(O: ∀c,az f c->c∉keys L G)(z:many<=8)(hl:l.length+8*xs.length<=1000000):Ret zB 96 [ptrTo e,.int .i64 (many:Nat),f] hq fun r h'=> ∃v',St M F h' (L.set i (e,.row [v'] 1)) (G.set j (v',1,bQ (l++xs.flatMap fun x=>bW many (u64 x)))):=by
 have P:=S;have ok:=S.ok;replace S:=S.base;refine erA (n:=42) (rs:=[]) Tryz.e96 ?_;simp only [BZ,H.lenq,seval];refine aF (fun(k:Nat) d h'=>k<=xs.length/\ ∃v',St (· ∈keys L G) hq h' (L.set i (e,.row [v'] 1)) (G.set j (v',1,bQ (l++(xs.take k).flatMap fun x=>bW many (u64 x))))/\d 0=ptrTo e/\d 1=.int .i64 (many:Nat)/\d 13=f/\d 14=.int .i64 xs.length/\d 15=.int .i64 k) (fun k=>xs.length-k) ?_ 0 _ _ ?_
 . clear S;intro k Q d h1 ⟨hk,v',S,r0,r1,r13,r14,r15⟩;have A:=H.mo S.fr O;by_cases hlt:k<xs.length
   . obtain⟨c,o,g,B⟩:=A.ix (kd:=.i64) (aE .u8) hlt;have w:am .i64 ((k:Int)+1)=((k+1:Nat):Int):=(by rw [wrap64]<;>omega);have R:xs.take (k+1)=xs.take k++[xs[k]]:=Xm hlt;simp only [BZ,r13,r14,r15,aq,hlt,g,B,encI,seval];refine ag ay S ?_;clear S;intro h p S I;have T:[Value.int .u8 0,.int .u8 0,.int .u8 0,.int .u8 0,.int .u8 0,.int .u8 0,.int .u8 0,.int .u8 0]=pa (u64 xs[k]) 0:=rfl;rw [T]at S;simp only [BZ,bj,aC,bD,wrap_u64,seval];refine aF (fun(a:Nat) d h'=>a<=8/\St (· ∈keys L G) hq h' ((p,.row (pa (u64 xs[k]) a) 1)::L.set i (e,.row [v'] 1)) (G.set j (v',1,bQ (l++(xs.take k).flatMap fun x=>bW many (u64 x))))/\d 0=ptrTo e/\d 1=.int .i64 (many:Nat)/\d 13=f/\d 14=.int .i64 xs.length/\d 15=.int .i64 k/\d 8=ptrTo p/\d 9=.int .u64 ((u64 xs[k]/256 ^a:Nat):Int)/\d 21=.int .i64 a) (fun a=>8-a) ?_ 0 _ _ ?_
     . clear S r0 r1 r13 r14 r15;intro a C d J ⟨ha,S,r0,r1,r13,r14,r15,r8,r9,r21⟩;have U:am .i64 ((a:Int)+1)=((a+1:Nat):Int):=(by rw [wrap64]<;>omega);by_cases s:a<8
       . have t:(a:Int)<8:=(by omega);have K:=wrapN (k:=.u8) rfl (u64 xs[k]/256 ^a);simp only [pw]at K;have V:(u64 xs[k]/256 ^a)>>>8=u64 xs[k]/256 ^(a+1):=(by rw [Xy,XV];rfl);simp only [BZ,bj,aC,bD,r8,r9,r21,t,K,rq (n:=8) s,s7 (k:=.u64) (by decide),seval];refine au (av S (i:=0) rfl Tryz.t5.2.2.1 cD (by rw [pz];exact s) ono) ?_;clear S;rintro J ⟨S,_⟩;simp only [LC,xR]at S;simp only [BZ,r9,r21,s7 (k:=.u64) (by decide),V,U,seval];exact C (a+1) _ _ (by omega) ⟨by omega,S,by simp [ao,r0,r1,r13,r14,r15,r8,ah]⟩
       . have W:a=8:=(by omega);subst W;have X:=(S.row (b:=e) (.tail _ (zM (gC u)))).load1 (o:=0) rfl;have N:=S.lds (b:=p) (o:=0) (n:=many) m0 (by rw [pz];omega);rw [Xz,vg z]at N;have D:aD J 1 (.slice (some ⟨p,0,none⟩) many 8)=some (many,bQ (bW many (u64 xs[k]))):=(by simp only [aD];rw [Xb,N]);have E:=uP (n:=8) (b:=p) (many:=many) (k:=.i64) Tryz.t237.1 Tryz.t5.2.2.1 z;simp only [BZ,Xe,r15,r21,seval];refine aw (aA rfl) (q:=0) (ps:=[]) (by kernel_rfl) ?_;simp only [BZ,cls,XD,Yc,r0,r1,r8,X,E,seval];refine ji (S.grow (j:=j) (m:=many) (new:=bQ (bW many (u64 xs[k]))) (gC y) Tryz.t22.1 Tryz.e5E (by decide) Tryz.t22.2.2.2.2.2 D (by rw [dw,bV,Xb]) (by decide) (qg _) (by
          have Y:(xs.take k).length=k:=(by rw [Xo];omega);have l2:many*k<=8*k:=X4 _ z;rw [dw,dw,bV,Xf,iF (fun x=>bV many _),Y];omega)) ?_
         clear S;rintro h3 Z S;have fv:=(S.gown _ (zM (gC (gC y)))).1.fl;have tl:bQ (l++(xs.take k).flatMap fun x=>bW many (u64 x))++bQ (bW many (u64 xs[k]))=bQ (l++(xs.take (k+1)).flatMap fun x=>bW many (u64 x)):=(by rw [<-kX,R,Xs,XW];simp);rw [set_set,tl]at S;simp only [BZ,cls,seval];refine dR (av S (i:=i+1) (gC u) Tryz.t22.2.2.1 fv (zO (lbt rfl)) ono) ?_;clear S;rintro h4 ⟨S,_⟩;simp only [LC,set_set]at S;simp only [BZ,r15,w,seval];exact Q (k+1) _ _ (by omega) ⟨by omega,Z,S.drop1,by simp [ao,r0,r1,r13,r14]⟩
     . exact⟨Xv _,S,by simp [ao,r0,r1,r13,r14,r15,ah]⟩
   . have:k=xs.length:=(by omega);subst this;rw [XI]at S;simp only [BZ,r14,r15,aq,hlt,seval];exact⟨v',P.rebase S⟩
 . exact⟨Xv _,v,by rw [set_self u];simp only [XK,Yi,Xw];rw [set_self y];exact S,by simp [ao,cy,ah,cS]⟩
theorem put32_ok{F:Hp}(S:St M F hq L G){l:Bs}(u:L[i]? =some (e,.row [v] 1))(y:G[j]? =some (v,1,bQ l))(H:aH hq 1 (encI .u32) f xs)(O: ∀c,az f c->c∉keys L G)(z:many<=8)(hl:l.length+8*xs.length<=1000000):Ret zB 98 [ptrTo e,.int .i64 (many:Nat),f] hq fun r h'=> ∃v',St M F h' (L.set i (e,.row [v'] 1)) (G.set j (v',1,bQ (l++xs.flatMap fun x=>bW many (u64 x)))):=by
 have P:=S;have ok:=S.ok;replace S:=S.base;refine erA (n:=42) (rs:=[]) Tryz.e98 ?_;simp only [BZ,H.lenq,seval];refine aF (fun(k:Nat) d h'=>k<=xs.length/\ ∃v',St (· ∈keys L G) hq h' (L.set i (e,.row [v'] 1)) (G.set j (v',1,bQ (l++(xs.take k).flatMap fun x=>bW many (u64 x))))/\d 0=ptrTo e/\d 1=.int .i64 (many:Nat)/\d 13=f/\d 14=.int .i64 xs.length/\d 15=.int .i64 k) (fun k=>xs.length-k) ?_ 0 _ _ ?_
 . clear S;intro k Q d h1 ⟨hk,v',S,r0,r1,r13,r14,r15⟩;have A:=H.mo S.fr O;by_cases hlt:k<xs.length
   . obtain⟨c,o,g,B⟩:=A.ix (kd:=.i64) (aE .u32) hlt;have w:am .i64 ((k:Int)+1)=((k+1:Nat):Int):=(by rw [wrap64]<;>omega);have R:xs.take (k+1)=xs.take k++[xs[k]]:=Xm hlt;simp only [BZ,r13,r14,r15,aq,hlt,g,B,encI,seval];refine ag ay S ?_;clear S;intro h p S I;have T:[Value.int .u8 0,.int .u8 0,.int .u8 0,.int .u8 0,.int .u8 0,.int .u8 0,.int .u8 0,.int .u8 0]=pa (u64 xs[k]) 0:=rfl;rw [T]at S;simp only [BZ,bj,aC,bD,wrap_u64,seval];refine aF (fun(a:Nat) d h'=>a<=8/\St (· ∈keys L G) hq h' ((p,.row (pa (u64 xs[k]) a) 1)::L.set i (e,.row [v'] 1)) (G.set j (v',1,bQ (l++(xs.take k).flatMap fun x=>bW many (u64 x))))/\d 0=ptrTo e/\d 1=.int .i64 (many:Nat)/\d 13=f/\d 14=.int .i64 xs.length/\d 15=.int .i64 k/\d 8=ptrTo p/\d 9=.int .u64 ((u64 xs[k]/256 ^a:Nat):Int)/\d 21=.int .i64 a) (fun a=>8-a) ?_ 0 _ _ ?_
     . clear S r0 r1 r13 r14 r15;intro a C d J ⟨ha,S,r0,r1,r13,r14,r15,r8,r9,r21⟩;have U:am .i64 ((a:Int)+1)=((a+1:Nat):Int):=(by rw [wrap64]<;>omega);by_cases s:a<8
       . have t:(a:Int)<8:=(by omega);have K:=wrapN (k:=.u8) rfl (u64 xs[k]/256 ^a);simp only [pw]at K;have V:(u64 xs[k]/256 ^a)>>>8=u64 xs[k]/256 ^(a+1):=(by rw [Xy,XV];rfl);simp only [BZ,bj,aC,bD,r8,r9,r21,t,K,rq (n:=8) s,s7 (k:=.u64) (by decide),seval];refine au (av S (i:=0) rfl Tryz.t5.2.2.1 cD (by rw [pz];exact s) ono) ?_;clear S;rintro J ⟨S,_⟩;simp only [LC,xR]at S;simp only [BZ,r9,r21,s7 (k:=.u64) (by decide),V,U,seval];exact C (a+1) _ _ (by omega) ⟨by omega,S,by simp [ao,r0,r1,r13,r14,r15,r8,ah]⟩
       . have W:a=8:=(by omega);subst W;have X:=(S.row (b:=e) (.tail _ (zM (gC u)))).load1 (o:=0) rfl;have N:=S.lds (b:=p) (o:=0) (n:=many) m0 (by rw [pz];omega);rw [Xz,vg z]at N;have D:aD J 1 (.slice (some ⟨p,0,none⟩) many 8)=some (many,bQ (bW many (u64 xs[k]))):=(by simp only [aD];rw [Xb,N]);have E:=uP (n:=8) (b:=p) (many:=many) (k:=.i64) Tryz.t237.1 Tryz.t5.2.2.1 z;simp only [BZ,Xe,r15,r21,seval];refine aw (aA rfl) (q:=0) (ps:=[]) (by kernel_rfl) ?_;simp only [BZ,cls,XD,Yc,r0,r1,r8,X,E,seval];refine ji (S.grow (j:=j) (m:=many) (new:=bQ (bW many (u64 xs[k]))) (gC y) Tryz.t22.1 Tryz.e5E (by decide) Tryz.t22.2.2.2.2.2 D (by rw [dw,bV,Xb]) (by decide) (qg _) (by
          have Y:(xs.take k).length=k:=(by rw [Xo];omega);have l2:many*k<=8*k:=X4 _ z;rw [dw,dw,bV,Xf,iF (fun x=>bV many _),Y];omega)) ?_
         clear S;rintro h3 Z S;have fv:=(S.gown _ (zM (gC (gC y)))).1.fl;have tl:bQ (l++(xs.take k).flatMap fun x=>bW many (u64 x))++bQ (bW many (u64 xs[k]))=bQ (l++(xs.take (k+1)).flatMap fun x=>bW many (u64 x)):=(by rw [<-kX,R,Xs,XW];simp);rw [set_set,tl]at S;simp only [BZ,cls,seval];refine dR (av S (i:=i+1) (gC u) Tryz.t22.2.2.1 fv (zO (lbt rfl)) ono) ?_;clear S;rintro h4 ⟨S,_⟩;simp only [LC,set_set]at S;simp only [BZ,r15,w,seval];exact Q (k+1) _ _ (by omega) ⟨by omega,Z,S.drop1,by simp [ao,r0,r1,r13,r14]⟩
     . exact⟨Xv _,S,by simp [ao,r0,r1,r13,r14,r15,ah]⟩
   . have:k=xs.length:=(by omega);subst this;rw [XI]at S;simp only [BZ,r14,r15,aq,hlt,seval];exact⟨v',P.rebase S⟩
 . exact⟨Xv _,v,by rw [set_self u];simp only [XK,Yi,Xw];rw [set_self y];exact S,by simp [ao,cy,ah,cS]⟩
theorem put64_ok{F:Hp}(S:St M F hq L G){l:Bs}(u:L[i]? =some (e,.row [v] 1))(y:G[j]? =some (v,1,bQ l))(H:aH hq 1 (encI .u64) f xs)(O: ∀c,az f c->c∉keys L G)(z:many<=8)(P: ∀x∈xs,((u64 x:Nat):Int)=x)(hl:l.length+8*xs.length<=1000000):Ret zB 97 [ptrTo e,.int .i64 (many:Nat),f] hq fun r h'=> ∃v',St M F h' (L.set i (e,.row [v'] 1)) (G.set j (v',1,bQ (l++xs.flatMap fun x=>bW many (u64 x)))):=by
 have Q:=S;have ok:=S.ok;replace S:=S.base;refine erA (n:=41) (rs:=[]) Tryz.e97 ?_;simp only [BZ,H.lenq,seval];refine aF (fun(k:Nat) d h'=>k<=xs.length/\ ∃v',St (· ∈keys L G) hq h' (L.set i (e,.row [v'] 1)) (G.set j (v',1,bQ (l++(xs.take k).flatMap fun x=>bW many (u64 x))))/\d 0=ptrTo e/\d 1=.int .i64 (many:Nat)/\d 13=f/\d 14=.int .i64 xs.length/\d 15=.int .i64 k) (fun k=>xs.length-k) ?_ 0 _ _ ?_
 . clear S;intro k R d h1 ⟨hk,v',S,r0,r1,r13,r14,r15⟩;have A:=H.mo S.fr O;by_cases hlt:k<xs.length
   . obtain⟨c,o,g,B⟩:=A.ix (kd:=.i64) (aE .u64) hlt;have w:am .i64 ((k:Int)+1)=((k+1:Nat):Int):=(by rw [wrap64]<;>omega);have T:xs.take (k+1)=xs.take k++[xs[k]]:=Xm hlt;simp only [BZ,r13,r14,r15,aq,hlt,g,B,encI,seval];refine ag ay S ?_;clear S;intro h p S I;have U:[Value.int .u8 0,.int .u8 0,.int .u8 0,.int .u8 0,.int .u8 0,.int .u8 0,.int .u8 0,.int .u8 0]=pa (u64 xs[k]) 0:=rfl;rw [U]at S;simp only [BZ,seval];refine aF (fun(a:Nat) d h'=>a<=8/\St (· ∈keys L G) hq h' ((p,.row (pa (u64 xs[k]) a) 1)::L.set i (e,.row [v'] 1)) (G.set j (v',1,bQ (l++(xs.take k).flatMap fun x=>bW many (u64 x))))/\d 0=ptrTo e/\d 1=.int .i64 (many:Nat)/\d 13=f/\d 14=.int .i64 xs.length/\d 15=.int .i64 k/\d 8=ptrTo p/\d 9=.int .u64 ((u64 xs[k]/256 ^a:Nat):Int)/\d 20=.int .i64 a) (fun a=>8-a) ?_ 0 _ _ ?_
     . clear S r0 r1 r13 r14 r15;intro a C d J ⟨ha,S,r0,r1,r13,r14,r15,r8,r9,r21⟩;have V:am .i64 ((a:Int)+1)=((a+1:Nat):Int):=(by rw [wrap64]<;>omega);by_cases s:a<8
       . have t:(a:Int)<8:=(by omega);have K:=wrapN (k:=.u8) rfl (u64 xs[k]/256 ^a);simp only [pw]at K;have W:(u64 xs[k]/256 ^a)>>>8=u64 xs[k]/256 ^(a+1):=(by rw [Xy,XV];rfl);simp only [BZ,bj,aC,bD,r8,r9,r21,t,K,rq (n:=8) s,s7 (k:=.u64) (by decide),seval];refine au (av S (i:=0) rfl Tryz.t5.2.2.1 cD (by rw [pz];exact s) ono) ?_;clear S;rintro J ⟨S,_⟩;simp only [LC,xR]at S;simp only [BZ,r9,r21,s7 (k:=.u64) (by decide),W,V,seval];exact C (a+1) _ _ (by omega) ⟨by omega,S,by simp [ao,r0,r1,r13,r14,r15,r8,ah]⟩
       . have X:a=8:=(by omega);subst X;have Y:=(S.row (b:=e) (.tail _ (zM (gC u)))).load1 (o:=0) rfl;have N:=S.lds (b:=p) (o:=0) (n:=many) m0 (by rw [pz];omega);rw [Xz,vg z]at N;have D:aD J 1 (.slice (some ⟨p,0,none⟩) many 8)=some (many,bQ (bW many (u64 xs[k]))):=(by simp only [aD];rw [Xb,N]);have E:=uP (n:=8) (b:=p) (many:=many) (k:=.i64) Tryz.t237.1 Tryz.t5.2.2.1 z;simp only [BZ,Xe,r15,r21,seval];refine aw (aA rfl) (q:=0) (ps:=[]) (by kernel_rfl) ?_;simp only [BZ,cls,XD,Yc,r0,r1,r8,Y,E,seval];refine ji (S.grow (j:=j) (m:=many) (new:=bQ (bW many (u64 xs[k]))) (gC y) Tryz.t22.1 Tryz.e5E (by decide) Tryz.t22.2.2.2.2.2 D (by rw [dw,bV,Xb]) (by decide) (qg _) (by
          have Z:(xs.take k).length=k:=(by rw [Xo];omega);have l2:many*k<=8*k:=X4 _ z;rw [dw,dw,bV,Xf,iF (fun x=>bV many _),Z];omega)) ?_
         clear S;rintro h3 v2 S;have fv:=(S.gown _ (zM (gC (gC y)))).1.fl;have tl:bQ (l++(xs.take k).flatMap fun x=>bW many (u64 x))++bQ (bW many (u64 xs[k]))=bQ (l++(xs.take (k+1)).flatMap fun x=>bW many (u64 x)):=(by rw [<-kX,T,Xs,XW];simp);rw [set_set,tl]at S;simp only [BZ,cls,seval];refine dR (av S (i:=i+1) (gC u) Tryz.t22.2.2.1 fv (zO (lbt rfl)) ono) ?_;clear S;rintro h4 ⟨S,_⟩;simp only [LC,set_set]at S;simp only [BZ,r15,w,seval];exact R (k+1) _ _ (by omega) ⟨by omega,v2,S.drop1,by simp [ao,r0,r1,r13,r14]⟩
     . exact⟨Xv _,S,by simp [ao,r0,r1,r13,r14,r15,ah,P _ (XH hlt)]⟩
   . have:k=xs.length:=(by omega);subst this;rw [XI]at S;simp only [BZ,r14,r15,aq,hlt,seval];exact⟨v',Q.rebase S⟩
 . exact⟨Xv _,v,by rw [set_self u];simp only [XK,Yi,Xw];rw [set_self y];exact S,by simp [ao,cy,ah,cS]⟩
theorem wU8_ok(S:St M d hq L G){a:Nat}{b:Value}{l:Bs}(e:L[i]? =some (a,.row [v] 1))(f:G[j]? =some (v,1,bQ l))(g:aH hq 1 (encI .u8) b xs)(k: ∀c,az b c->c∉keys L G)(m:l.length+8*xs.length<=1000000):Ret zB 37 [ptrTo a,b] hq fun r h'=> ∃v',St M d h' (L.set i (a,.row [v'] 1)) (G.set j (v',1,bQ (l++xs.flatMap fun x=>bW 1 (u64 x)))):=by
 refine erA (n:=7) (rs:=[]) Tryz.e37 ?_;simp only [BZ,seval];refine step_ret (put8_ok (many:=1) S e f g k (by decide) m) ?_;rintro r h ⟨v',o⟩;simp only [BZ];exact⟨v',o⟩
theorem wU32_ok(S:St M d hq L G){a:Nat}{b:Value}{l:Bs}(e:L[i]? =some (a,.row [v] 1))(f:G[j]? =some (v,1,bQ l))(g:aH hq 1 (encI .u32) b xs)(k: ∀c,az b c->c∉keys L G)(m:l.length+8*xs.length<=1000000):Ret zB 39 [ptrTo a,b] hq fun r h'=> ∃v',St M d h' (L.set i (a,.row [v'] 1)) (G.set j (v',1,bQ (l++xs.flatMap fun x=>bW 4 (u64 x)))):=by
 refine erA (n:=7) (rs:=[]) Tryz.e39 ?_;simp only [BZ,seval];refine step_ret (put32_ok (many:=4) S e f g k (by decide) m) ?_;rintro r h ⟨v',o⟩;simp only [BZ];exact⟨v',o⟩
theorem wU64_ok(S:St M d hq L G){a:Nat}{b:Value}{l:Bs}(e:L[i]? =some (a,.row [v] 1))(f:G[j]? =some (v,1,bQ l))(g:aH hq 1 (encI .u64) b xs)(k: ∀c,az b c->c∉keys L G)(m: ∀x∈xs,((u64 x:Nat):Int)=x)(o:l.length+8*xs.length<=1000000):Ret zB 38 [ptrTo a,b] hq fun r h'=> ∃v',St M d h' (L.set i (a,.row [v'] 1)) (G.set j (v',1,bQ (l++xs.flatMap fun x=>bW 8 (u64 x)))):=by
 refine erA (n:=7) (rs:=[]) Tryz.e38 ?_;simp only [BZ,seval];refine step_ret (put64_ok (many:=8) S e f g k (by decide) m o) ?_;rintro r h ⟨v',p⟩;simp only [BZ];exact⟨v',p⟩
theorem BO(S:St M c hq L G){a:Nat}{l m:Bs}(d:L[i]? =some (a,.row [v] 1))(e:G[j]? =some (v,1,bQ l))(p:l.length+m.length<=1000000):Ret zB 36 [ptrTo a,sv m] hq fun r h'=> ∃v',St M c h' (L.set i (a,.row [v'] 1)) (G.set j (v',1,bQ (l++m))):=by
 have q:=S.ok;have f:=(S.row (b:=a) (zM d)).load1 (o:=0) rfl;refine erA (n:=15) (rs:=[]) Tryz.e36 ?_;simp only [BZ,f,seval];refine dc (S.grow (j:=j) (m:=m.length) (new:=bQ m) e Tryz.t22.1 Tryz.e5E (by decide) Tryz.t9.2.2.2.2 src_sv (by rw [dw,Xb]) (by decide) (qg _) (by rw [dw,dw];omega)) ?_;clear S;rintro h g S;have k:=(S.gown _ (zM (gC e))).1.fl;rw [<-kX]at S;simp only [BZ,seval];refine au (av S (i:=i) d Tryz.t22.2.2.1 k (zO (lbt rfl)) ono) ?_;clear S;rintro h ⟨S,_⟩;simp only [LC]at S;simp only [BZ];exact⟨g,S⟩
theorem by_of{l:Bs}(g:jO h (v,1,bQ l)):BySl h v l:=g.sl (byF l).symm (fun _=>rfl) (by decide)
theorem ut(c:OZ a){l:Bs}(d:a.load b 0 1=some [v])(g:jO a (v,1,bQ l)):cj zB 41 [ptrTo b] a (sv l):=by have S:=Si c;refine erA (n:=10) (rs:=[.tmp 2]) Tryz.e41 ?_;simp only [BZ,bj,aC,ab,d,nR (by_of g),seval];exact S.gr
theorem Ar{b:Hp}(S:St M b hq L G):Ret zB 35 [] hq fun r h'=> ∃a,r=ptrTo a/\St M b h' ((a,.row [.slice none 0 0] 1)::L) ((.slice none 0 0,1,bQ [])::G):=by have d:=S.ok;refine erA (n:=3) (rs:=[.tmp 0]) Tryz.e35 ?_;simp only [BZ,seval];refine ag (bG (by intro x e;cases e)) S ?_;clear S;intro h a S c;simp only [ae]at S;simp only [BZ,ab,seval];exact⟨a,rfl,S.nilG⟩
def rdC(s:Bs)(a:Nat)(f:Value):List Value:=[sv s,.int .i64 (a:Nat),f]
def RdF(f:Value)(bad:Bool):Prop:=if bad=true then∃x,f=.pointer (some x)else f=.pointer none
def Int4(l:List Value):Prop:= ∃x y z w:Int,l=[.int .i64 x,.int .i64 y,.int .i64 z,.int .i64 w]
def RdO(d h:Hp)(f:Value)(bad:Bool)(c:Value)(a:Bool):Prop:=RdF c a/\((c=f/\a=bad)\/ ∃b l,c=ptrTo b/\d.n<=b/\Int4 l/\Row h b l 1)
def aR(s:Bs)(a:Nat)(bad:Bool)(n:Nat):Bs×Nat×Bool:=if bad=true\/s.length<a+n then([],a,true)else((s.drop a).take n,a+n,false)
theorem iX{a:Nat}:(aR s a bad n).1.length<=n:=by unfold aR;split<;>simp<;>omega
theorem mD{a:Nat}(h:a<=s.length):(aR s a bad n).2.1<=s.length:=by
 unfold aR;split
 . exact h
 . show a+n<=s.length;omega
theorem tD{p:Hp}(S:St M p hq L G){g:Nat}{a:Nat}(j:L[i]? =some (g,.row (rdC s a f) 1))(hf:RdF f bad)(E:a<=s.length)(hs:s.length<=1000000)(F:n<=10000000):Ret zB 203 [ptrTo g,.int .i64 (n:Nat)] hq fun r h'=>r=sv (aR s a bad n).1/\ ∃y,RdO p h' f bad y (aR s a bad n).2.2/\St M p h' (L.set i (g,.row (rdC s (aR s a bad n).2.1 y) 1)) G:=by
 have H:=S.ok;have R:=S.row (b:=g) (zM j);have t:=R.load1 (o:=0) rfl;have u:=R.load1 (o:=1) rfl;have v:=R.load1 (o:=2) rfl;cases bad with
 | true=>
   obtain⟨x,rfl⟩:=hf;refine erA (n:=74) (rs:=[.tmp 4]) Tryz.e203 ?_;simp only [BZ,ab,v,seval];exact⟨rfl,_,⟨⟨x,rfl⟩,.inl ⟨rfl,rfl⟩⟩,by unfold aR;rw [if_pos (.inl rfl),set_self j];exact S⟩
 | false=>
   have hf:f=.pointer none:=hf;subst hf;have z: ¬((n:Int)<0):=(by omega);have A:am .i64 ((s.length:Int)-(a:Int))=((s.length-a:Nat):Int):=(by rw [wrap64]<;>omega);have C:am .i64 ((a:Int)+(n:Int))=((a+n:Nat):Int):=(by rw [wrap64]<;>omega);by_cases m:s.length<a+n
   . have w:((s.length-a:Nat):Int)<(n:Int):=(by omega);refine erA (n:=74) (rs:=[.tmp 4]) Tryz.e203 ?_;simp only [BZ,v,z,seval];refine aw (aA rfl) (q:=0) (ps:=[]) (by kernel_rfl) ?_;simp only [BZ,cls,t,u,cF,A,w,seval];refine ag (bG (by intro x e;cases e)) S ?_;clear S;intro h B S d;simp only [ae]at S;simp only [BZ,seval];refine au (av S (i:=i+1) j Tryz.t104.2.2.1 c6 (zO (lbt rfl)) ono) ?_;clear S;rintro h ⟨S,_⟩;simp only [BZ,ab,seval];exact⟨by unfold aR;rw [if_pos (.inr m)];rfl,.pointer (some ⟨B,0,none⟩),by unfold aR;rw [if_pos (.inr m)];exact⟨⟨_,rfl⟩,.inr ⟨B,_,rfl,d,⟨_,_,_,_,rfl⟩,S.row (zM (i:=0) rfl)⟩⟩,by unfold aR;rw [if_pos (.inr m)];exact S.drop1⟩
   . have w: ¬((s.length-a:Nat):Int)<(n:Int):=(by omega);have D:=Ce (l:=s) (k:=.i64) (k':=.i64) (a:=a) (b:=a+n) Tryz.t9.1 (by omega) (by omega);refine erA (n:=74) (rs:=[.tmp 4]) Tryz.e203 ?_;simp only [BZ,v,z,seval];refine aw (aA rfl) (q:=0) (ps:=[]) (by kernel_rfl) ?_;simp only [BZ,cls,t,u,cF,A,w,seval];refine aw (aA rfl) (q:=0) (ps:=[]) (by kernel_rfl) ?_;simp only [BZ,cls,XD,Yc,t,u,C,D,seval];refine au (av S (i:=i) j Tryz.t3.2.2.1 cD (zO (lbt rfl)) ono) ?_;clear S;rintro h ⟨S,_⟩;simp only [BZ,ab,seval];have e:(s.take (a+n)).drop a=(s.drop a).take n:=(by rw [List.drop_take];congr 1;omega);have c: ¬((false:Bool)=true\/s.length<a+n):=(by rintro(h|h);cases h;exact m h);exact⟨by unfold aR;rw [if_neg c,e],.pointer none,by unfold aR;rw [if_neg c];exact⟨rfl,.inl ⟨rfl,rfl⟩⟩,by unfold aR;rw [if_neg c];exact S⟩
theorem yk{l:Bs}(h:i<l.length):aQ (l.take i)|||(l[i].toNat*2 ^(8*i))=aQ (l.take (i+1)):=by
 have a:(l.take i).length=i:=by rw [Xo];omega
 have b:=jY (l.take i);rw [a,show(256:Nat)=2 ^8 from rfl,<-Nat.pow_mul]at b;rw [Xm h,Dw,a,show(256:Nat) ^i=2 ^(8*i) by rw [Nat.pow_mul]];have:=Nat.two_pow_add_eq_or_of_lt b l[i].toNat;rw [Nat.or_comm,YA l[i].toNat,<-this,show aQ [l[i]]=l[i].toNat by simp [aQ]];omega
theorem yO(S:St M c hq L G){d:Nat}{a:Nat}(C:L[i]? =some (d,.row (rdC s a f) 1))(hf:RdF f bad)(D:a<=s.length)(hs:s.length<=1000000):Ret zB 137 [ptrTo d] hq fun r h'=>r=.int .u8 (aQ (aR s a bad 1).1:Nat)/\ ∃e,RdO c h' f bad e (aR s a bad 1).2.2/\St M c h' (L.set i (d,.row (rdC s (aR s a bad 1).2.1 e) 1)) G:=by
 have O:=S.ok;have u:=iX (s:=s) (a:=a) (n:=1) (bad:=bad);have j:Ret zB 192 [ptrTo d,.int .i64 1] hq fun r h'=>r=.int .u8 (aQ (aR s a bad 1).1:Nat)/\ ∃e,RdO c h' f bad e (aR s a bad 1).2.2/\St M c h' (L.set i (d,.row (rdC s (aR s a bad 1).2.1 e) 1)) G:=by
  refine erA (n:=28) (rs:=[.tmp 4]) Tryz.e192 ?_;simp only [BZ,seval];refine step_ret (tD (n:=1) S C hf D hs (by decide)) ?_;rintro r h ⟨rfl,P⟩;generalize(aR s a bad 1).1=l at u;have Q:=jY l;have F:256 ^l.length<=256 ^1:=XA (by decide) u;simp only [seval]at F;simp only [BZ,cF,seval];refine aF (fun(k:Nat) g h'=>k<=l.length/\h'=h/\g 5=sv l/\g 6=.int .u64 (aQ (l.take k):Nat)/\g 12=.int .i64 l.length/\g 13=.int .i64 k) (fun k=>l.length-k) ?_ 0 _ _ ?_
  . rintro k H g h' ⟨R,rfl,v,m,b,r13⟩;have w:am .i64 ((k:Int)+1)=((k+1:Nat):Int):=(by rw [wrap64]<;>omega);by_cases hlt:k<l.length
    . have T:=oI l[k];have I:=cu (k:=.u64) rfl (n:=l[k].toNat) (by simp only [pw];omega);have J:am .i64 (8*(k:Int))=((8*k:Nat):Int):=(by rw [wrap64]<;>omega);have z:l[k].toNat*2 ^(8*k)<18446744073709551616:=(by have:k=0\/k=1\/k=2\/k=3\/k=4\/k=5\/k=6\/k=7:=(by omega);rcases this with rfl|rfl|rfl|rfl|rfl|rfl|rfl|rfl<;>simp only [seval]<;>omega);have K:aQ (l.take k)<18446744073709551616:=(by have U:=jY (l.take k);have:256 ^(l.take k).length<=256 ^8:=XA (by decide) (by rw [Xo];omega);omega);have A:=fun(t:TypeId) (p q:Operand)=>yw (E:=zB) (t:=t) (p:=p) (q:=q) (k:=.u64) (k':=.i64) (x:=l[k].toNat) (y:=8*k) rfl (by show _<=64;omega);simp only [pw,XO z]at A;have B:=fun(t:TypeId) (p q:Operand)=>b_orN (E:=zB) (t:=t) (p:=p) (q:=q) (k:=.u64) (x:=aQ (l.take k)) (y:=l[k].toNat*2 ^(8*k)) rfl K z;simp only [yk hlt]at B;simp only [BZ,bj,aC,bD,v,m,b,r13,aq,hlt,jP Tryz.t9.1 hlt,I,J,A,B,w,seval];exact H (k+1) _ _ (by omega) ⟨by omega,rfl,by simp [ao,v,b]⟩
    . have o:k=l.length:=(by omega);subst o;rw [XI]at m;have N:am .u8 ((aQ l:Nat):Int)=_:=cu rfl (by simp only [pw];omega);simp only [BZ,bj,aC,bD,ab,m,b,r13,aq,hlt,N,seval];exact P
  . exact⟨Xv _,rfl,by simp [ao,aQ]⟩
 refine erA (n:=5) (rs:=[.tmp 2]) Tryz.e137 ?_;simp only [BZ,seval];refine step_ret j ?_;rintro r h ⟨rfl,P⟩;simp only [BZ,ab,seval];exact P
theorem zS(S:St M c hq L G){d:Nat}{a:Nat}(C:L[i]? =some (d,.row (rdC s a f) 1))(hf:RdF f bad)(D:a<=s.length)(hs:s.length<=1000000):Ret zB 153 [ptrTo d] hq fun r h'=>r=.int .u32 (aQ (aR s a bad 4).1:Nat)/\ ∃e,RdO c h' f bad e (aR s a bad 4).2.2/\St M c h' (L.set i (d,.row (rdC s (aR s a bad 4).2.1 e) 1)) G:=by
 have O:=S.ok;have u:=iX (s:=s) (a:=a) (n:=4) (bad:=bad);have j:Ret zB 202 [ptrTo d,.int .i64 4] hq fun r h'=>r=.int .u32 (aQ (aR s a bad 4).1:Nat)/\ ∃e,RdO c h' f bad e (aR s a bad 4).2.2/\St M c h' (L.set i (d,.row (rdC s (aR s a bad 4).2.1 e) 1)) G:=by
  refine erA (n:=28) (rs:=[.tmp 4]) Tryz.e202 ?_;simp only [BZ,seval];refine step_ret (tD (n:=4) S C hf D hs (by decide)) ?_;rintro r h ⟨rfl,P⟩;generalize(aR s a bad 4).1=l at u;have Q:=jY l;have F:256 ^l.length<=256 ^4:=XA (by decide) u;simp only [seval]at F;simp only [BZ,cF,seval];refine aF (fun(k:Nat) g h'=>k<=l.length/\h'=h/\g 5=sv l/\g 6=.int .u64 (aQ (l.take k):Nat)/\g 12=.int .i64 l.length/\g 13=.int .i64 k) (fun k=>l.length-k) ?_ 0 _ _ ?_
  . rintro k H g h' ⟨R,rfl,v,m,b,r13⟩;have w:am .i64 ((k:Int)+1)=((k+1:Nat):Int):=(by rw [wrap64]<;>omega);by_cases hlt:k<l.length
    . have T:=oI l[k];have I:=cu (k:=.u64) rfl (n:=l[k].toNat) (by simp only [pw];omega);have J:am .i64 (8*(k:Int))=((8*k:Nat):Int):=(by rw [wrap64]<;>omega);have z:l[k].toNat*2 ^(8*k)<18446744073709551616:=(by have:k=0\/k=1\/k=2\/k=3\/k=4\/k=5\/k=6\/k=7:=(by omega);rcases this with rfl|rfl|rfl|rfl|rfl|rfl|rfl|rfl<;>simp only [seval]<;>omega);have K:aQ (l.take k)<18446744073709551616:=(by have U:=jY (l.take k);have:256 ^(l.take k).length<=256 ^8:=XA (by decide) (by rw [Xo];omega);omega);have A:=fun(t:TypeId) (p q:Operand)=>yw (E:=zB) (t:=t) (p:=p) (q:=q) (k:=.u64) (k':=.i64) (x:=l[k].toNat) (y:=8*k) rfl (by show _<=64;omega);simp only [pw,XO z]at A;have B:=fun(t:TypeId) (p q:Operand)=>b_orN (E:=zB) (t:=t) (p:=p) (q:=q) (k:=.u64) (x:=aQ (l.take k)) (y:=l[k].toNat*2 ^(8*k)) rfl K z;simp only [yk hlt]at B;simp only [BZ,bj,aC,bD,v,m,b,r13,aq,hlt,jP Tryz.t9.1 hlt,I,J,A,B,w,seval];exact H (k+1) _ _ (by omega) ⟨by omega,rfl,by simp [ao,v,b]⟩
    . have o:k=l.length:=(by omega);subst o;rw [XI]at m;have N:am .u32 ((aQ l:Nat):Int)=_:=cu rfl (by simp only [pw];omega);simp only [BZ,bj,aC,bD,ab,m,b,r13,aq,hlt,N,seval];exact P
  . exact⟨Xv _,rfl,by simp [ao,aQ]⟩
 refine erA (n:=5) (rs:=[.tmp 2]) Tryz.e153 ?_;simp only [BZ,seval];refine step_ret j ?_;rintro r h ⟨rfl,P⟩;simp only [BZ,ab,seval];exact P
theorem rU64_ok(S:St M c hq L G){d:Nat}{a:Nat}(C:L[i]? =some (d,.row (rdC s a f) 1))(hf:RdF f bad)(D:a<=s.length)(hs:s.length<=1000000):Ret zB 201 [ptrTo d] hq fun r h'=>r=.int .u64 (aQ (aR s a bad 8).1:Nat)/\ ∃e,RdO c h' f bad e (aR s a bad 8).2.2/\St M c h' (L.set i (d,.row (rdC s (aR s a bad 8).2.1 e) 1)) G:=by
 have N:=S.ok;have u:=iX (s:=s) (a:=a) (n:=8) (bad:=bad);have j:Ret zB 227 [ptrTo d,.int .i64 8] hq fun r h'=>r=.int .u64 (aQ (aR s a bad 8).1:Nat)/\ ∃e,RdO c h' f bad e (aR s a bad 8).2.2/\St M c h' (L.set i (d,.row (rdC s (aR s a bad 8).2.1 e) 1)) G:=by
  refine erA (n:=27) (rs:=[.tmp 4]) Tryz.e227 ?_;simp only [BZ,seval];refine step_ret (tD (n:=8) S C hf D hs (by decide)) ?_;rintro r h ⟨rfl,P⟩;generalize(aR s a bad 8).1=l at u;have O:=jY l;have F:256 ^l.length<=256 ^8:=XA (by decide) u;simp only [seval]at F;simp only [BZ,cF,seval];refine aF (fun(k:Nat) g h'=>k<=l.length/\h'=h/\g 5=sv l/\g 6=.int .u64 (aQ (l.take k):Nat)/\g 12=.int .i64 l.length/\g 13=.int .i64 k) (fun k=>l.length-k) ?_ 0 _ _ ?_
  . rintro k H g h' ⟨Q,rfl,v,m,b,r13⟩;have w:am .i64 ((k:Int)+1)=((k+1:Nat):Int):=(by rw [wrap64]<;>omega);by_cases hlt:k<l.length
    . have R:=oI l[k];have I:=cu (k:=.u64) rfl (n:=l[k].toNat) (by simp only [pw];omega);have J:am .i64 (8*(k:Int))=((8*k:Nat):Int):=(by rw [wrap64]<;>omega);have z:l[k].toNat*2 ^(8*k)<18446744073709551616:=(by have:k=0\/k=1\/k=2\/k=3\/k=4\/k=5\/k=6\/k=7:=(by omega);rcases this with rfl|rfl|rfl|rfl|rfl|rfl|rfl|rfl<;>simp only [seval]<;>omega);have K:aQ (l.take k)<18446744073709551616:=(by have T:=jY (l.take k);have:256 ^(l.take k).length<=256 ^8:=XA (by decide) (by rw [Xo];omega);omega);have A:=fun(t:TypeId) (p q:Operand)=>yw (E:=zB) (t:=t) (p:=p) (q:=q) (k:=.u64) (k':=.i64) (x:=l[k].toNat) (y:=8*k) rfl (by show _<=64;omega);simp only [pw,XO z]at A;have B:=fun(t:TypeId) (p q:Operand)=>b_orN (E:=zB) (t:=t) (p:=p) (q:=q) (k:=.u64) (x:=aQ (l.take k)) (y:=l[k].toNat*2 ^(8*k)) rfl K z;simp only [yk hlt]at B;simp only [BZ,bj,aC,bD,v,m,b,r13,aq,hlt,jP Tryz.t9.1 hlt,I,J,A,B,w,seval];exact H (k+1) _ _ (by omega) ⟨by omega,rfl,by simp [ao,v,b]⟩
    . have o:k=l.length:=(by omega);subst o;rw [XI]at m;simp only [BZ,ab,m,b,r13,aq,hlt,seval];exact P
  . exact⟨Xv _,rfl,by simp [ao,aQ]⟩
 refine erA (n:=5) (rs:=[.tmp 2]) Tryz.e201 ?_;simp only [BZ,seval];refine step_ret j ?_;rintro r h ⟨rfl,P⟩;simp only [BZ,ab,seval];exact P
theorem wC(S:St M c hq L G){d:Nat}{a:Nat}(C:L[i]? =some (d,.row (rdC s a f) 1))(hf:RdF f bad)(D:a<=s.length)(hs:s.length<=1000000):Ret zB 134 [ptrTo d] hq fun r h'=>r=.int .i64 (get8 (aR s a bad 8).1)/\ ∃e,RdO c h' f bad e (aR s a bad 8).2.2/\St M c h' (L.set i (d,.row (rdC s (aR s a bad 8).2.1 e) 1)) G:=by
 have O:=S.ok;have u:=iX (s:=s) (a:=a) (n:=8) (bad:=bad);have j:Ret zB 191 [ptrTo d,.int .i64 8] hq fun r h'=>r=.int .i64 (get8 (aR s a bad 8).1)/\ ∃e,RdO c h' f bad e (aR s a bad 8).2.2/\St M c h' (L.set i (d,.row (rdC s (aR s a bad 8).2.1 e) 1)) G:=by
  refine erA (n:=28) (rs:=[.tmp 4]) Tryz.e191 ?_;simp only [BZ,seval];refine step_ret (tD (n:=8) S C hf D hs (by decide)) ?_;rintro r h ⟨rfl,P⟩;generalize(aR s a bad 8).1=l at u;have Q:=jY l;have F:256 ^l.length<=256 ^8:=XA (by decide) u;simp only [seval]at F;simp only [BZ,cF,seval];refine aF (fun(k:Nat) g h'=>k<=l.length/\h'=h/\g 5=sv l/\g 6=.int .u64 (aQ (l.take k):Nat)/\g 12=.int .i64 l.length/\g 13=.int .i64 k) (fun k=>l.length-k) ?_ 0 _ _ ?_
  . rintro k H g h' ⟨R,rfl,v,m,b,r13⟩;have w:am .i64 ((k:Int)+1)=((k+1:Nat):Int):=(by rw [wrap64]<;>omega);by_cases hlt:k<l.length
    . have T:=oI l[k];have I:=cu (k:=.u64) rfl (n:=l[k].toNat) (by simp only [pw];omega);have J:am .i64 (8*(k:Int))=((8*k:Nat):Int):=(by rw [wrap64]<;>omega);have z:l[k].toNat*2 ^(8*k)<18446744073709551616:=(by have:k=0\/k=1\/k=2\/k=3\/k=4\/k=5\/k=6\/k=7:=(by omega);rcases this with rfl|rfl|rfl|rfl|rfl|rfl|rfl|rfl<;>simp only [seval]<;>omega);have K:aQ (l.take k)<18446744073709551616:=(by have U:=jY (l.take k);have:256 ^(l.take k).length<=256 ^8:=XA (by decide) (by rw [Xo];omega);omega);have A:=fun(t:TypeId) (p q:Operand)=>yw (E:=zB) (t:=t) (p:=p) (q:=q) (k:=.u64) (k':=.i64) (x:=l[k].toNat) (y:=8*k) rfl (by show _<=64;omega);simp only [pw,XO z]at A;have B:=fun(t:TypeId) (p q:Operand)=>b_orN (E:=zB) (t:=t) (p:=p) (q:=q) (k:=.u64) (x:=aQ (l.take k)) (y:=l[k].toNat*2 ^(8*k)) rfl K z;simp only [yk hlt]at B;simp only [BZ,bj,aC,bD,v,m,b,r13,aq,hlt,jP Tryz.t9.1 hlt,I,J,A,B,w,seval];exact H (k+1) _ _ (by omega) ⟨by omega,rfl,by simp [ao,v,b]⟩
    . have o:k=l.length:=(by omega);subst o;rw [XI]at m;have N:am .i64 ((aQ l:Nat):Int)=_:=wrap_i64 (by omega);simp only [BZ,bj,aC,bD,ab,m,b,r13,aq,hlt,N,seval];exact⟨rfl,P⟩
  . exact⟨Xv _,rfl,by simp [ao,aQ]⟩
 refine erA (n:=5) (rs:=[.tmp 2]) Tryz.e134 ?_;simp only [BZ,seval];refine step_ret j ?_;rintro r h ⟨rfl,P⟩;simp only [BZ,ab,seval];exact P
theorem B6{b:Hp}(S:St M b hq L G){c:Nat}{a:Nat}(e:L[i]? =some (c,.row (rdC s a f) 1))(hf:RdF f bad)(g:a<=s.length)(hs:s.length<=1000000)(j:n<=10000000):Ret zB 157 [ptrTo c,.int .i64 (n:Nat)] hq fun r h'=>r=sv (aR s a bad n).1/\ ∃d,RdO b h' f bad d (aR s a bad n).2.2/\St M b h' (L.set i (c,.row (rdC s (aR s a bad n).2.1 d) 1)) G:=by
 have k:=S.ok;refine erA (n:=8) (rs:=[.tmp 4]) Tryz.e157 ?_;simp only [BZ,seval];refine step_ret (tD S e hf g hs j) ?_;rintro r h ⟨rfl,P⟩;simp only [BZ,ab,seval];exact P
theorem rAt_ok{b:Hp}(d:OZ b){c:Nat}{a:Nat}(R:Row b c (rdC s a f) 1):cj zB 152 [ptrTo c] b (.int .i64 (a:Nat)):=by have S:=Si d;refine erA (n:=9) (rs:=[.tmp 2]) Tryz.e152 ?_;simp only [BZ,ab,R.load1 (o:=1) rfl,seval];exact S.gr
theorem rLeft_ok{b:Hp}(d:OZ b){c:Nat}{a:Nat}(R:Row b c (rdC s a f) 1)(g:a<=s.length)(hs:s.length<=1000000):cj zB 156 [ptrTo c] b (.int .i64 (s.length-a:Nat)):=by
 have S:=Si d;have e:am .i64 ((s.length:Int)-(a:Int))=((s.length-a:Nat):Int):=by rw [wrap64]<;>omega
 refine erA (n:=15) (rs:=[.tmp 2]) Tryz.e156 ?_;simp only [BZ,seval];refine aw (aA rfl) (q:=0) (ps:=[]) (by kernel_rfl) ?_;simp only [BZ,cls,ab,R.load1 (o:=0) rfl,R.load1 (o:=1) rfl,cF,e,seval];exact S.gr
end Go.Ab
