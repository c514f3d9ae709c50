/- Nets, cells, flags: what the functions do (part 1). -/
import Derived.Test.YtpnmkakfejadbabGreatDoorKtv
open Go.Ab.Tryz
open Go.Ab.Tryz renaming abEnv->zB
open List renaming mem_of_getElem?->zM,range->Xb,length_append->Xd,take->Xe,drop->Xf,getD_eq_getElem?_getD->Xg,take_succ_eq_append_getElem->Xk,length_take->Xn,getElem?_eq_getElem->Xo,flatMap_append->Xq,getElem?_append_right->Xs,append_nil->Xv,getElem?_map->Xw,ext_getElem?->Xx,drop_zero->Xy,take_succ_cons->XC,getElem?_append_left->XD,take_length->XE,take_zero->XF,take_of_length_le->XG,getElem_mem->XJ,length_cons->XK,length_set->XL,map_cons->XM,getElem?_replicate->XN,mem_cons->XQ,append_assoc->XS,nodup_append->XT,replicate->XV,getElem?_set->XZ,flatMap_eq_foldl->X3,not_mem_nil->X4,flatMap_nil->X5,getElem?_append->X6,length_flatMap->X9,map_const'->Ya,length_nil->Yb,drop_eq_getElem_cons->Yc,nodup_cons->Yd,flatMap_cons->Yh,cons_append->Yj,length_singleton->Yl,getElem?_eq_none->Ym,length_replicate->Yo,range_succ->Yp,getElem?_range->Yr,filterMap_nil->Yt,map_nil->Yv,getElem?_cons_zero->YB,getElem?_cons_succ->YC,mem_range->YH,length_filter_le->YI,drop_succ_cons->YL,replicate_succ->YM,map_eq_flatMap->YN
open Nat renaming lt_of_succ_le->zO,mul_one->Xa,ble_eq_true_of_le->Xh,zero_add->Xj,zero_mul->Xl,le_trans->Xm,one_mul->Xp,zero_le->Xr,shiftRight_eq_div_pow->Xt,le_refl->Xz,pow_le_pow_right->XB,mod_eq_of_lt->XO,div_div_eq_div_mul->XP,mul_le_mul_right->XU,testBit_mod_two_pow->XW,xor_lt_two_pow->XY,beq->X2,ble->Ye,blt->Yf,blt_eq->Yg,eq_of_beq_eq_true->Yk,sub_zero->Yq,lt_of_lt_of_le->Ys,mod_two_eq_zero_or_one->Yu,beq_refl->Yw,add_zero->Yy,pow_succ->Yz,mul_comm->YA,add_sub_cancel_left->YD,testBit_two_pow_mul->YE,testBit_div_two_pow->YF,min_eq_left->YG,eq_of_testBit_eq->YK,sub_self->YO,xor_zero->YP
open Int renaming cast_ofNat_Int->Xc,tmod_eq_emod_of_nonneg->X7,tdiv_eq_ediv_of_nonneg->X8,toNat_natCast->Yi,ofNat->Yn,ofNat_eq_natCast->YJ
open And renaming intro->Xi
open Option renaming isSome_none->Xu,map_some->XA,getD_some->XI,map_none->XX,getD_none->Yx
open Bool renaming and_true->XH
open Prod renaming fst->XR
set_option maxHeartbeats 4000000
set_option linter.defProp false
set_option linter.unusedVariables false
set_option linter.unusedSimpArgs false
namespace Go.Ab
variable{c d h h' hq:Hp}
variable{N S a b cap e i j k m many md n o off r u y:Nat}
variable{A bad:Bool}
variable{Z args cs:List Value}
variable{E:Env}
variable{V f g p q v vx vy w z:Value}
variable{body:Code}
variable{rs:List ResultVar}
variable{D M:Nat->Prop}
variable{L:List (Nat×Ob)}
variable{G:List GL}
variable{ps:List (Nat×Nat)}
variable{J:Nat->Hp->List Nat->Prop}
variable{x:Int}
variable{ks xs:List Int}
variable{R:Nat->List Nat}
variable{ρ:Operand->Value}
variable{K:Nat->Option Int}
variable{B:List Arc}
variable{ex':Arc->Prop}
variable{o1 o2:Ob}
variable{k' kd:IntKind}
variable{cx:Cx}
variable{os:List Oper}
variable{F:List Nat}
theorem Si(a:OZ h):St NoM h h [] []:=St.init a
theorem aj{a b:Prop}(x:a)(y:b):a/\b:=⟨x,y⟩
set_option linter.defProp false in
def LC:=Xi @List.set_cons_zero.{0}<|Xi @List.set_cons_succ.{0}<|Xi @List.cons_append.{0}<|Xi @List.nil_append.{0}<|Xi @List.append_nil.{0}<|Xi @List.length_cons.{0}<|Xi @List.length_nil.{0}<|@Nat.add_zero
theorem lbt(h:Ye a b=true):a<=b:=Nat.le_of_ble_eq_true h
theorem ono:(1:Nat)≠0:=Nat.one_ne_zero
set_option linter.defProp false in
def LB:=Xi @if_true.{1}<|Xi @if_false.{1}<|Xi @eq_self.{1}<|Xi @List.map_cons.{0,0}<|Xi @List.map_nil.{0,0}<|Xi @List.append_nil.{0}<|Xi @List.nil_append.{0}<|Xi @List.cons_append.{0}<|Xi @List.getElem?_cons_zero.{0}<|Xi @List.getElem?_cons_succ.{0}<|Xi @List.set_cons_zero.{0}<|Xi @List.set_cons_succ.{0}<|Xi @List.length_cons.{0}<|Xi @List.length_nil.{0}<|Xi @Nat.add_zero<|Xi @Nat.zero_add<|Xi @Nat.mul_one<|Xi @Nat.zero_mul<|Xi @cond_true.{1}<|Xi @cond_false.{1}<|Xi @decide_true<|Xi @decide_false<|Xi @Bool.and_true<|Xi @Bool.and_false<|Xi @Bool.not_false<|Xi @Bool.not_true<|Xi @true_and<|Xi @and_true<|Xi @Option.isSome_some.{0}<|@List.map_toArray.{0,0}
open Go.Proofs
namespace Tryz
abbrev TQ0(i:TypeId)(A:Bool)(S:Nat)(Z:List Value):Prop:=abEnv.agg i=some A/\abEnv.sz i=some S/\abEnv.zero i=some Z/\fj zB i=some false
theorem kTQ0{i:TypeId}(h:(abEnv.agg i,abEnv.sz i,abEnv.zero i,fj zB i)=(some A,some S,some Z,some false)):TQ0 i A S Z:=by simpa only [Prod.mk.injEq]using h
abbrev TQ1(i:TypeId)(U:TypeDesc)(A:Bool)(S:Nat)(Z:List Value):Prop:=abEnv.und i=some U/\abEnv.agg i=some A/\abEnv.sz i=some S/\abEnv.zero i=some Z/\nG zB i=true
theorem kTQ1{i:TypeId}{U:TypeDesc}(h:(abEnv.und i,abEnv.agg i,abEnv.sz i,abEnv.zero i,nG zB i)=(some U,some A,some S,some Z,true)):TQ1 i U A S Z:=by simpa only [Prod.mk.injEq]using h
abbrev TQ2(i:TypeId)(U:TypeDesc)(A:Bool)(S:Nat)(Z:List Value):Prop:=abEnv.und i=some U/\abEnv.agg i=some A/\abEnv.sz i=some S/\abEnv.zero i=some Z/\fj zB i=some false
theorem kTQ2{i:TypeId}{U:TypeDesc}(h:(abEnv.und i,abEnv.agg i,abEnv.sz i,abEnv.zero i,fj zB i)=(some U,some A,some S,some Z,some false)):TQ2 i U A S Z:=by simpa only [Prod.mk.injEq]using h
abbrev TQ3(i:TypeId)(A:Bool)(S:Nat)(Z:List Value)(P:List (Nat×Nat)):Prop:=abEnv.agg i=some A/\abEnv.sz i=some S/\abEnv.zero i=some Z/\nG zB i=true/\fj zB i=some false/\placesOf zB i=some P
theorem kTQ3{i:TypeId}{P:List (Nat×Nat)}(h:(abEnv.agg i,abEnv.sz i,abEnv.zero i,nG zB i,fj zB i,placesOf zB i)=(some A,some S,some Z,true,some false,some P)):TQ3 i A S Z P:=by simpa only [Prod.mk.injEq]using h
abbrev TQ4(i:TypeId)(U:TypeDesc)(A:Bool)(S:Nat)(Z:List Value):Prop:=abEnv.und i=some U/\abEnv.agg i=some A/\abEnv.sz i=some S/\abEnv.zero i=some Z/\isSl zB i=true/\fj zB i=some false
theorem kTQ4{i:TypeId}{U:TypeDesc}(h:(abEnv.und i,abEnv.agg i,abEnv.sz i,abEnv.zero i,isSl zB i,fj zB i)=(some U,some A,some S,some Z,true,some false)):TQ4 i U A S Z:=by simpa only [Prod.mk.injEq]using h
abbrev TQ5(i:TypeId)(U:TypeDesc)(A:Bool)(S:Nat)(Z:List Value):Prop:=abEnv.und i=some U/\abEnv.agg i=some A/\abEnv.sz i=some S/\abEnv.zero i=some Z/\qs zB i=true/\nG zB i=true/\fj zB i=some false
theorem kTQ5{i:TypeId}{U:TypeDesc}(h:(abEnv.und i,abEnv.agg i,abEnv.sz i,abEnv.zero i,qs zB i,nG zB i,fj zB i)=(some U,some A,some S,some Z,true,true,some false)):TQ5 i U A S Z:=by simpa only [Prod.mk.injEq]using h
abbrev TQ6(i:TypeId)(A:Bool)(S:Nat)(Z:List Value):Prop:=abEnv.agg i=some A/\abEnv.sz i=some S/\abEnv.zero i=some Z/\isIface zB i=true/\fj zB i=some false
theorem kTQ6{i:TypeId}(h:(abEnv.agg i,abEnv.sz i,abEnv.zero i,isIface zB i,fj zB i)=(some A,some S,some Z,true,some false)):TQ6 i A S Z:=by simpa only [Prod.mk.injEq]using h
abbrev TQ7(i:TypeId)(A:Bool)(S:Nat)(Z:List Value):Prop:=abEnv.agg i=some A/\abEnv.sz i=some S/\abEnv.zero i=some Z/\nG zB i=true/\fj zB i=some false
theorem kTQ7{i:TypeId}(h:(abEnv.agg i,abEnv.sz i,abEnv.zero i,nG zB i,fj zB i)=(some A,some S,some Z,true,some false)):TQ7 i A S Z:=by simpa only [Prod.mk.injEq]using h
abbrev TR0(i:TypeId)(f o1 o2 o3:Nat):Prop:=(∀(b o:Nat) (s:Option Nat),aN zB i (.pointer (some ⟨b,o,s⟩)) 0=some (.pointer (some ⟨b,o+f,none⟩))/\aN zB i (.pointer (some ⟨b,o,s⟩)) 1=some (.pointer (some ⟨b,o+o1,none⟩))/\aN zB i (.pointer (some ⟨b,o,s⟩)) 2=some (.pointer (some ⟨b,o+o2,none⟩))/\aN zB i (.pointer (some ⟨b,o,s⟩)) 3=some (.pointer (some ⟨b,o+o3,none⟩)))/\ ∀a c d e:Value,bZ zB i (.agg ⟨[a,c,d,e]⟩) 0=some a/\bZ zB i (.agg ⟨[a,c,d,e]⟩) 1=some c/\bZ zB i (.agg ⟨[a,c,d,e]⟩) 2=some d/\bZ zB i (.agg ⟨[a,c,d,e]⟩) 3=some e
abbrev TR1(i:TypeId)(g o1 o2 o3 h:Nat):Prop:=(∀(b o:Nat) (s:Option Nat),aN zB i (.pointer (some ⟨b,o,s⟩)) 0=some (.pointer (some ⟨b,o+g,none⟩))/\aN zB i (.pointer (some ⟨b,o,s⟩)) 1=some (.pointer (some ⟨b,o+o1,none⟩))/\aN zB i (.pointer (some ⟨b,o,s⟩)) 2=some (.pointer (some ⟨b,o+o2,none⟩))/\aN zB i (.pointer (some ⟨b,o,s⟩)) 3=some (.pointer (some ⟨b,o+o3,none⟩))/\aN zB i (.pointer (some ⟨b,o,s⟩)) 4=some (.pointer (some ⟨b,o+h,none⟩)))/\ ∀a c d e f:Value,bZ zB i (.agg ⟨[a,c,d,e,f]⟩) 0=some a/\bZ zB i (.agg ⟨[a,c,d,e,f]⟩) 1=some c/\bZ zB i (.agg ⟨[a,c,d,e,f]⟩) 2=some d/\bZ zB i (.agg ⟨[a,c,d,e,f]⟩) 3=some e/\bZ zB i (.agg ⟨[a,c,d,e,f]⟩) 4=some f
abbrev TR2(i:TypeId)(e o1 o2:Nat):Prop:=(∀(b o:Nat) (s:Option Nat),aN zB i (.pointer (some ⟨b,o,s⟩)) 0=some (.pointer (some ⟨b,o+e,none⟩))/\aN zB i (.pointer (some ⟨b,o,s⟩)) 1=some (.pointer (some ⟨b,o+o1,none⟩))/\aN zB i (.pointer (some ⟨b,o,s⟩)) 2=some (.pointer (some ⟨b,o+o2,none⟩)))/\ ∀a c d:Value,bZ zB i (.agg ⟨[a,c,d]⟩) 0=some a/\bZ zB i (.agg ⟨[a,c,d]⟩) 1=some c/\bZ zB i (.agg ⟨[a,c,d]⟩) 2=some d
abbrev TR3(i:TypeId)(l o1 o2 o3:Nat):Prop:=(∀(b o:Nat) (s:Option Nat),aN zB i (.pointer (some ⟨b,o,s⟩)) 0=some (.pointer (some ⟨b,o+l,none⟩))/\aN zB i (.pointer (some ⟨b,o,s⟩)) 1=some (.pointer (some ⟨b,o+o1,none⟩))/\aN zB i (.pointer (some ⟨b,o,s⟩)) 2=some (.pointer (some ⟨b,o+o2,none⟩))/\aN zB i (.pointer (some ⟨b,o,s⟩)) 3=some (.pointer (some ⟨b,o+o3,none⟩)))/\ ∀a c d e f g h j k:Value,bZ zB i (.agg ⟨[a,c,d,e,f,g,h,j,k]⟩) 0=some (.agg ⟨[a,c,d,e]⟩)/\bZ zB i (.agg ⟨[a,c,d,e,f,g,h,j,k]⟩) 1=some (.agg ⟨[f,g,h]⟩)/\bZ zB i (.agg ⟨[a,c,d,e,f,g,h,j,k]⟩) 2=some j/\bZ zB i (.agg ⟨[a,c,d,e,f,g,h,j,k]⟩) 3=some k
abbrev TR4(i:TypeId)(d o1:Nat):Prop:=(∀(b o:Nat) (s:Option Nat),aN zB i (.pointer (some ⟨b,o,s⟩)) 0=some (.pointer (some ⟨b,o+d,none⟩))/\aN zB i (.pointer (some ⟨b,o,s⟩)) 1=some (.pointer (some ⟨b,o+o1,none⟩)))/\ ∀a c:Value,bZ zB i (.agg ⟨[a,c]⟩) 0=some a/\bZ zB i (.agg ⟨[a,c]⟩) 1=some c
abbrev TR5(i:TypeId)(c:Nat):Prop:=(∀(b o:Nat) (s:Option Nat),aN zB i (.pointer (some ⟨b,o,s⟩)) 0=some (.pointer (some ⟨b,o+c,none⟩)))/\ ∀a:Value,bZ zB i (.agg ⟨[a]⟩) 0=some a
abbrev TR6(i:TypeId)(p o1 o2 o3 q r t u v w n:Nat):Prop:=(∀(b o:Nat) (s:Option Nat),aN zB i (.pointer (some ⟨b,o,s⟩)) 0=some (.pointer (some ⟨b,o+p,none⟩))/\aN zB i (.pointer (some ⟨b,o,s⟩)) 1=some (.pointer (some ⟨b,o+o1,none⟩))/\aN zB i (.pointer (some ⟨b,o,s⟩)) 2=some (.pointer (some ⟨b,o+o2,none⟩))/\aN zB i (.pointer (some ⟨b,o,s⟩)) 3=some (.pointer (some ⟨b,o+o3,none⟩))/\aN zB i (.pointer (some ⟨b,o,s⟩)) 4=some (.pointer (some ⟨b,o+q,none⟩))/\aN zB i (.pointer (some ⟨b,o,s⟩)) 5=some (.pointer (some ⟨b,o+r,none⟩))/\aN zB i (.pointer (some ⟨b,o,s⟩)) 6=some (.pointer (some ⟨b,o+t,none⟩))/\aN zB i (.pointer (some ⟨b,o,s⟩)) 7=some (.pointer (some ⟨b,o+u,none⟩))/\aN zB i (.pointer (some ⟨b,o,s⟩)) 8=some (.pointer (some ⟨b,o+v,none⟩))/\aN zB i (.pointer (some ⟨b,o,s⟩)) 9=some (.pointer (some ⟨b,o+w,none⟩))/\aN zB i (.pointer (some ⟨b,o,s⟩)) 10=some (.pointer (some ⟨b,o+n,none⟩)))/\ ∀c d e f g h j k l m a:Value,bZ zB i (.agg ⟨[c,d,e,f,g,h,j,k,l,m,a]⟩) 0=some c/\bZ zB i (.agg ⟨[c,d,e,f,g,h,j,k,l,m,a]⟩) 1=some d/\bZ zB i (.agg ⟨[c,d,e,f,g,h,j,k,l,m,a]⟩) 2=some e/\bZ zB i (.agg ⟨[c,d,e,f,g,h,j,k,l,m,a]⟩) 3=some f/\bZ zB i (.agg ⟨[c,d,e,f,g,h,j,k,l,m,a]⟩) 4=some g/\bZ zB i (.agg ⟨[c,d,e,f,g,h,j,k,l,m,a]⟩) 5=some h/\bZ zB i (.agg ⟨[c,d,e,f,g,h,j,k,l,m,a]⟩) 6=some j/\bZ zB i (.agg ⟨[c,d,e,f,g,h,j,k,l,m,a]⟩) 7=some k/\bZ zB i (.agg ⟨[c,d,e,f,g,h,j,k,l,m,a]⟩) 8=some l/\bZ zB i (.agg ⟨[c,d,e,f,g,h,j,k,l,m,a]⟩) 9=some m/\bZ zB i (.agg ⟨[c,d,e,f,g,h,j,k,l,m,a]⟩) 10=some a
abbrev TR7(i:TypeId)(h o1 o2:Nat):Prop:=(∀(b o:Nat) (s:Option Nat),aN zB i (.pointer (some ⟨b,o,s⟩)) 0=some (.pointer (some ⟨b,o+h,none⟩))/\aN zB i (.pointer (some ⟨b,o,s⟩)) 1=some (.pointer (some ⟨b,o+o1,none⟩))/\aN zB i (.pointer (some ⟨b,o,s⟩)) 2=some (.pointer (some ⟨b,o+o2,none⟩)))/\ ∀a c d e f g:Value,bZ zB i (.agg ⟨[a,c,d,e,f,g]⟩) 0=some (.agg ⟨[a,c,d,e]⟩)/\bZ zB i (.agg ⟨[a,c,d,e,f,g]⟩) 1=some f/\bZ zB i (.agg ⟨[a,c,d,e,f,g]⟩) 2=some g
abbrev TR8(i:TypeId)(h o1 o2:Nat):Prop:=(∀(b o:Nat) (s:Option Nat),aN zB i (.pointer (some ⟨b,o,s⟩)) 0=some (.pointer (some ⟨b,o+h,none⟩))/\aN zB i (.pointer (some ⟨b,o,s⟩)) 1=some (.pointer (some ⟨b,o+o1,none⟩))/\aN zB i (.pointer (some ⟨b,o,s⟩)) 2=some (.pointer (some ⟨b,o+o2,none⟩)))/\ ∀a c d e f g:Value,bZ zB i (.agg ⟨[a,c,d,e,f,g]⟩) 0=some a/\bZ zB i (.agg ⟨[a,c,d,e,f,g]⟩) 1=some c/\bZ zB i (.agg ⟨[a,c,d,e,f,g]⟩) 2=some (.agg ⟨[d,e,f,g]⟩)
abbrev TR9(i:TypeId)(h o1 o2 o3 j k:Nat):Prop:=(∀(b o:Nat) (s:Option Nat),aN zB i (.pointer (some ⟨b,o,s⟩)) 0=some (.pointer (some ⟨b,o+h,none⟩))/\aN zB i (.pointer (some ⟨b,o,s⟩)) 1=some (.pointer (some ⟨b,o+o1,none⟩))/\aN zB i (.pointer (some ⟨b,o,s⟩)) 2=some (.pointer (some ⟨b,o+o2,none⟩))/\aN zB i (.pointer (some ⟨b,o,s⟩)) 3=some (.pointer (some ⟨b,o+o3,none⟩))/\aN zB i (.pointer (some ⟨b,o,s⟩)) 4=some (.pointer (some ⟨b,o+j,none⟩))/\aN zB i (.pointer (some ⟨b,o,s⟩)) 5=some (.pointer (some ⟨b,o+k,none⟩)))/\ ∀a c d e f g:Value,bZ zB i (.agg ⟨[a,c,d,e,f,g]⟩) 0=some a/\bZ zB i (.agg ⟨[a,c,d,e,f,g]⟩) 1=some c/\bZ zB i (.agg ⟨[a,c,d,e,f,g]⟩) 2=some d/\bZ zB i (.agg ⟨[a,c,d,e,f,g]⟩) 3=some e/\bZ zB i (.agg ⟨[a,c,d,e,f,g]⟩) 4=some f/\bZ zB i (.agg ⟨[a,c,d,e,f,g]⟩) 5=some g
abbrev TR10(i:TypeId)(g o1 o2:Nat):Prop:=(∀(b o:Nat) (s:Option Nat),aN zB i (.pointer (some ⟨b,o,s⟩)) 0=some (.pointer (some ⟨b,o+g,none⟩))/\aN zB i (.pointer (some ⟨b,o,s⟩)) 1=some (.pointer (some ⟨b,o+o1,none⟩))/\aN zB i (.pointer (some ⟨b,o,s⟩)) 2=some (.pointer (some ⟨b,o+o2,none⟩)))/\ ∀a c d e f:Value,bZ zB i (.agg ⟨[a,c,d,e,f]⟩) 0=some a/\bZ zB i (.agg ⟨[a,c,d,e,f]⟩) 1=some (.agg ⟨[c,d,e]⟩)/\bZ zB i (.agg ⟨[a,c,d,e,f]⟩) 2=some f
abbrev TR11(i:TypeId)(e o1:Nat):Prop:=(∀(b o:Nat) (s:Option Nat),aN zB i (.pointer (some ⟨b,o,s⟩)) 0=some (.pointer (some ⟨b,o+e,none⟩))/\aN zB i (.pointer (some ⟨b,o,s⟩)) 1=some (.pointer (some ⟨b,o+o1,none⟩)))/\ ∀a c d:Value,bZ zB i (.agg ⟨[a,c,d]⟩) 0=some (.agg ⟨[a,c]⟩)/\bZ zB i (.agg ⟨[a,c,d]⟩) 1=some d
theorem t1:TQ0 1 false 1 [.nilFunc]:=kTQ0 (by kernel_rfl)
theorem t2:TQ1 2 (.int .i64) false 1 [.int .i64 0]:=kTQ1 (by kernel_rfl)
theorem e2E:eP zB 2 8 1 [.int .i64 0]:=⟨⟨_,rfl,by kernel_rfl,by kernel_rfl⟩,t2.2.2.2.1,rfl⟩
theorem t3:TQ1 3 (.int .i64) false 1 [.int .i64 0]:=kTQ1 (by kernel_rfl)
theorem e3E:eP zB 3 8 1 [.int .i64 0]:=⟨⟨_,rfl,by kernel_rfl,by kernel_rfl⟩,t3.2.2.2.1,rfl⟩
theorem t4:TQ2 4 .bool false 1 [.bool false]:=kTQ2 (by kernel_rfl)
theorem e4E:eP zB 4 1 1 [.bool false]:=⟨⟨_,rfl,by kernel_rfl,by kernel_rfl⟩,t4.2.2.2.1,rfl⟩
theorem t5:TQ1 5 (.int .u8) false 1 [.int .u8 0]:=kTQ1 (by kernel_rfl)
theorem e5E:eP zB 5 1 1 [.int .u8 0]:=⟨⟨_,rfl,by kernel_rfl,by kernel_rfl⟩,t5.2.2.2.1,rfl⟩
theorem t6:TQ1 6 (.int .u8) false 1 [.int .u8 0]:=kTQ1 (by kernel_rfl)
theorem t7:TQ3 7 true 4 [.int .i64 0,.int .i64 0,.bool false,.int .u8 0] [(0,1),(1,1),(2,1),(3,1)]:=kTQ3 (by kernel_rfl)
theorem r7:TR0 7 0 1 2 3:=⟨fun _ _ _=>⟨rfl,rfl,rfl,rfl⟩,fun _ _ _ _=>⟨rfl,rfl,rfl,rfl⟩⟩
theorem t8:TQ3 8 true 4 [.int .i64 0,.int .i64 0,.bool false,.int .u8 0] [(0,1),(1,1),(2,1),(3,1)]:=kTQ3 (by kernel_rfl)
theorem r8:TR0 8 0 1 2 3:=⟨fun _ _ _=>⟨rfl,rfl,rfl,rfl⟩,fun _ _ _ _=>⟨rfl,rfl,rfl,rfl⟩⟩
theorem t9:TQ2 9 .string false 1 [.string ⟨#[]⟩]:=kTQ2 (by kernel_rfl)
theorem t10:TQ2 10 .string false 1 [.string ⟨#[]⟩]:=kTQ2 (by kernel_rfl)
theorem t11:TQ2 11 .string false 1 [.string ⟨#[]⟩]:=kTQ2 (by kernel_rfl)
theorem t22:TQ4 22 (.slice 5) false 1 [.slice none 0 0]:=kTQ4 (by kernel_rfl)
theorem t23:TQ4 23 (.slice 2) false 1 [.slice none 0 0]:=kTQ4 (by kernel_rfl)
theorem e23E:eP zB 23 24 1 [.slice none 0 0]:=⟨⟨_,rfl,by kernel_rfl,by kernel_rfl⟩,t23.2.2.2.1,rfl⟩
theorem t25:TQ3 25 true 5 [.slice none 0 0,.slice none 0 0,.slice none 0 0,.int .u8 0,.slice none 0 0] [(0,1),(1,1),(2,1),(3,1),(4,1)]:=kTQ3 (by kernel_rfl)
theorem r25:TR1 25 0 1 2 3 4:=⟨fun _ _ _=>⟨rfl,rfl,rfl,rfl,rfl⟩,fun _ _ _ _ _=>⟨rfl,rfl,rfl,rfl,rfl⟩⟩
theorem t26:TQ2 26 (.array 3 5) true 3 [.int .u8 0,.int .u8 0,.int .u8 0]:=kTQ2 (by kernel_rfl)
theorem t27:TQ5 27 (.pointer 65) false 1 [.pointer none]:=kTQ5 (by kernel_rfl)
theorem t29:TQ1 29 (.int .i64) false 1 [.int .i64 0]:=kTQ1 (by kernel_rfl)
theorem t33:TQ4 33 (.slice 50) false 1 [.slice none 0 0]:=kTQ4 (by kernel_rfl)
theorem t35:TQ4 35 (.slice 81) false 1 [.slice none 0 0]:=kTQ4 (by kernel_rfl)
theorem t37:TQ3 37 true 4 [.int .i64 0,.slice none 0 0,.slice none 0 0,.slice none 0 0] [(0,1),(1,1),(2,1),(3,1)]:=kTQ3 (by kernel_rfl)
theorem r37:TR0 37 0 1 2 3:=⟨fun _ _ _=>⟨rfl,rfl,rfl,rfl⟩,fun _ _ _ _=>⟨rfl,rfl,rfl,rfl⟩⟩
theorem t38:TQ4 38 (.slice 3) false 1 [.slice none 0 0]:=kTQ4 (by kernel_rfl)
theorem e38E:eP zB 38 24 1 [.slice none 0 0]:=⟨⟨_,rfl,by kernel_rfl,by kernel_rfl⟩,t38.2.2.2.1,rfl⟩
theorem t39:TQ4 39 (.slice 23) false 1 [.slice none 0 0]:=kTQ4 (by kernel_rfl)
theorem t41:TQ3 41 true 3 [.slice none 0 0,.slice none 0 0,.slice none 0 0] [(0,1),(1,1),(2,1)]:=kTQ3 (by kernel_rfl)
theorem r41:TR2 41 0 1 2:=⟨fun _ _ _=>⟨rfl,rfl,rfl⟩,fun _ _ _=>⟨rfl,rfl,rfl⟩⟩
theorem t43:TQ3 43 true 9 [.int .i64 0,.slice none 0 0,.slice none 0 0,.slice none 0 0,.slice none 0 0,.slice none 0 0,.slice none 0 0,.slice none 0 0,.string ⟨#[]⟩] [(0,4),(4,3),(7,1),(8,1)]:=kTQ3 (by kernel_rfl)
theorem r43:TR3 43 0 4 7 8:=⟨fun _ _ _=>⟨rfl,rfl,rfl,rfl⟩,fun _ _ _ _ _ _ _ _ _=>⟨rfl,rfl,rfl,rfl⟩⟩
theorem t50:TQ3 50 true 2 [.int .i64 0,.string ⟨#[]⟩] [(0,1),(1,1)]:=kTQ3 (by kernel_rfl)
theorem r50:TR4 50 0 1:=⟨fun _ _ _=>⟨rfl,rfl⟩,fun _ _=>⟨rfl,rfl⟩⟩
theorem e50E:eP zB 50 24 2 [.int .i64 0,.string ⟨#[]⟩]:=⟨⟨_,rfl,by kernel_rfl,by kernel_rfl⟩,t50.2.2.1,rfl⟩
theorem t56:TQ5 56 (.pointer 142) false 1 [.pointer none]:=kTQ5 (by kernel_rfl)
theorem t61:TQ5 61 (.pointer 117) false 1 [.pointer none]:=kTQ5 (by kernel_rfl)
theorem t62:TQ5 62 (.pointer 127) false 1 [.pointer none]:=kTQ5 (by kernel_rfl)
theorem t63:TQ5 63 (.pointer 144) false 1 [.pointer none]:=kTQ5 (by kernel_rfl)
theorem t65:TQ3 65 true 4 [.pointer none,.pointer none,.pointer none,.pointer none] [(0,1),(1,1),(2,1),(3,1)]:=kTQ3 (by kernel_rfl)
theorem r65:TR0 65 0 1 2 3:=⟨fun _ _ _=>⟨rfl,rfl,rfl,rfl⟩,fun _ _ _ _=>⟨rfl,rfl,rfl,rfl⟩⟩
theorem e3:abEnv.fn 3=some Tryz.f3:=by kernel_rfl
theorem t12:TQ1 12 (.int .u64) false 1 [.int .u64 0]:=kTQ1 (by kernel_rfl)
theorem t13:TQ3 13 true 2 [.string ⟨#[]⟩,.int .u64 0] [(0,1),(1,1)]:=kTQ3 (by kernel_rfl)
theorem r13:TR4 13 0 1:=⟨fun _ _ _=>⟨rfl,rfl⟩,fun _ _=>⟨rfl,rfl⟩⟩
theorem t14:TQ3 14 true 2 [.string ⟨#[]⟩,.int .u64 0] [(0,1),(1,1)]:=kTQ3 (by kernel_rfl)
theorem r14:TR4 14 0 1:=⟨fun _ _ _=>⟨rfl,rfl⟩,fun _ _=>⟨rfl,rfl⟩⟩
theorem t15:TQ5 15 (.pointer 349) false 1 [.pointer none]:=kTQ5 (by kernel_rfl)
theorem t16:TQ5 16 (.pointer 352) false 1 [.pointer none]:=kTQ5 (by kernel_rfl)
theorem t17:TQ5 17 (.pointer 359) false 1 [.pointer none]:=kTQ5 (by kernel_rfl)
theorem t18:TQ3 18 true 1 [.pointer none] [(0,1)]:=kTQ3 (by kernel_rfl)
theorem r18:TR5 18 0:=⟨fun _ _ _=>rfl,fun _=>rfl⟩
theorem t19:TQ3 19 true 1 [.pointer none] [(0,1)]:=kTQ3 (by kernel_rfl)
theorem r19:TR5 19 0:=⟨fun _ _ _=>rfl,fun _=>rfl⟩
theorem t20:TQ6 20 false 1 [.nilIface]:=kTQ6 (by kernel_rfl)
theorem t21:TQ1 21 (.int .i32) false 1 [.int .i32 0]:=kTQ1 (by kernel_rfl)
theorem t24:TQ3 24 true 5 [.slice none 0 0,.slice none 0 0,.slice none 0 0,.int .u8 0,.slice none 0 0] [(0,1),(1,1),(2,1),(3,1),(4,1)]:=kTQ3 (by kernel_rfl)
theorem r24:TR1 24 0 1 2 3 4:=⟨fun _ _ _=>⟨rfl,rfl,rfl,rfl,rfl⟩,fun _ _ _ _ _=>⟨rfl,rfl,rfl,rfl,rfl⟩⟩
theorem t28:TQ0 28 false 1 [.nilFunc]:=kTQ0 (by kernel_rfl)
theorem t48:TQ2 48 (.array 4 5) true 4 [.int .u8 0,.int .u8 0,.int .u8 0,.int .u8 0]:=kTQ2 (by kernel_rfl)
theorem t78:TQ1 78 (.int .u32) false 1 [.int .u32 0]:=kTQ1 (by kernel_rfl)
theorem e78E:eP zB 78 4 1 [.int .u32 0]:=⟨⟨_,rfl,by kernel_rfl,by kernel_rfl⟩,t78.2.2.2.1,rfl⟩
theorem t134:TQ5 134 (.pointer 5) false 1 [.pointer none]:=kTQ5 (by kernel_rfl)
theorem t256:TQ1 256 (.int .u8) false 1 [.int .u8 0]:=kTQ1 (by kernel_rfl)
theorem t349:TQ3 349 true 4 [.pointer none,.pointer none,.pointer none,.string ⟨#[]⟩] [(0,1),(1,1),(2,1),(3,1)]:=kTQ3 (by kernel_rfl)
theorem r349:TR0 349 0 1 2 3:=⟨fun _ _ _=>⟨rfl,rfl,rfl,rfl⟩,fun _ _ _ _=>⟨rfl,rfl,rfl,rfl⟩⟩
theorem t350:TQ2 350 (.array 0 16) true 0 []:=kTQ2 (by kernel_rfl)
theorem t352:TQ7 352 true 0 []:=kTQ7 (by kernel_rfl)
theorem t354:TQ1 354 (.int .u8) false 1 [.int .u8 0]:=kTQ1 (by kernel_rfl)
theorem t355:TQ0 355 false 1 [.nilFunc]:=kTQ0 (by kernel_rfl)
theorem t356:TQ1 356 (.int .i32) false 1 [.int .i32 0]:=kTQ1 (by kernel_rfl)
theorem t357:TQ1 357 (.int .i32) false 1 [.int .i32 0]:=kTQ1 (by kernel_rfl)
theorem t359:TQ3 359 true 11 [.int .u64 0,.int .u64 0,.int .u32 0,.int .u8 0,.int .u8 0,.int .u8 0,.int .u8 0,.nilFunc,.pointer none,.int .i32 0,.int .i32 0] [(0,1),(1,1),(2,1),(3,1),(4,1),(5,1),(6,1),(7,1),(8,1),(9,1),(10,1)]:=kTQ3 (by kernel_rfl)
theorem r359:TR6 359 0 1 2 3 4 5 6 7 8 9 10:=⟨fun _ _ _=>⟨rfl,rfl,rfl,rfl,rfl,rfl,rfl,rfl,rfl,rfl,rfl⟩,fun _ _ _ _ _ _ _ _ _ _ _=>⟨rfl,rfl,rfl,rfl,rfl,rfl,rfl,rfl,rfl,rfl,rfl⟩⟩
theorem t31:TQ0 31 false 1 [.nilFunc]:=kTQ0 (by kernel_rfl)
theorem t32:TQ0 32 false 1 [.nilFunc]:=kTQ0 (by kernel_rfl)
theorem t34:TQ0 34 false 1 [.nilFunc]:=kTQ0 (by kernel_rfl)
theorem t36:TQ3 36 true 4 [.int .i64 0,.slice none 0 0,.slice none 0 0,.slice none 0 0] [(0,1),(1,1),(2,1),(3,1)]:=kTQ3 (by kernel_rfl)
theorem r36:TR0 36 0 1 2 3:=⟨fun _ _ _=>⟨rfl,rfl,rfl,rfl⟩,fun _ _ _ _=>⟨rfl,rfl,rfl,rfl⟩⟩
theorem t40:TQ3 40 true 3 [.slice none 0 0,.slice none 0 0,.slice none 0 0] [(0,1),(1,1),(2,1)]:=kTQ3 (by kernel_rfl)
theorem r40:TR2 40 0 1 2:=⟨fun _ _ _=>⟨rfl,rfl,rfl⟩,fun _ _ _=>⟨rfl,rfl,rfl⟩⟩
theorem t42:TQ3 42 true 9 [.int .i64 0,.slice none 0 0,.slice none 0 0,.slice none 0 0,.slice none 0 0,.slice none 0 0,.slice none 0 0,.slice none 0 0,.string ⟨#[]⟩] [(0,4),(4,3),(7,1),(8,1)]:=kTQ3 (by kernel_rfl)
theorem r42:TR3 42 0 4 7 8:=⟨fun _ _ _=>⟨rfl,rfl,rfl,rfl⟩,fun _ _ _ _ _ _ _ _ _=>⟨rfl,rfl,rfl,rfl⟩⟩
theorem t44:TQ0 44 false 1 [.nilFunc]:=kTQ0 (by kernel_rfl)
theorem t45:TQ0 45 false 1 [.nilFunc]:=kTQ0 (by kernel_rfl)
theorem t46:TQ0 46 false 1 [.nilFunc]:=kTQ0 (by kernel_rfl)
theorem t47:TQ0 47 false 1 [.nilFunc]:=kTQ0 (by kernel_rfl)
theorem t49:TQ3 49 true 2 [.int .i64 0,.string ⟨#[]⟩] [(0,1),(1,1)]:=kTQ3 (by kernel_rfl)
theorem r49:TR4 49 0 1:=⟨fun _ _ _=>⟨rfl,rfl⟩,fun _ _=>⟨rfl,rfl⟩⟩
theorem t52:TQ5 52 (.pointer 54) false 1 [.pointer none]:=kTQ5 (by kernel_rfl)
theorem t54:TQ3 54 true 2 [.slice none 0 0,.int .i64 0] [(0,1),(1,1)]:=kTQ3 (by kernel_rfl)
theorem r54:TR4 54 0 1:=⟨fun _ _ _=>⟨rfl,rfl⟩,fun _ _=>⟨rfl,rfl⟩⟩
theorem t58:TQ6 58 false 1 [.nilIface]:=kTQ6 (by kernel_rfl)
theorem t74:TQ1 74 (.int .u64) false 1 [.int .u64 0]:=kTQ1 (by kernel_rfl)
theorem e74E:eP zB 74 8 1 [.int .u64 0]:=⟨⟨_,rfl,by kernel_rfl,by kernel_rfl⟩,t74.2.2.2.1,rfl⟩
theorem t81:TQ3 81 true 3 [.int .i64 0,.int .i64 0,.int .i64 0] [(0,1),(1,1),(2,1)]:=kTQ3 (by kernel_rfl)
theorem r81:TR2 81 0 1 2:=⟨fun _ _ _=>⟨rfl,rfl,rfl⟩,fun _ _ _=>⟨rfl,rfl,rfl⟩⟩
theorem e81E:eP zB 81 24 3 [.int .i64 0,.int .i64 0,.int .i64 0]:=⟨⟨_,rfl,by kernel_rfl,by kernel_rfl⟩,t81.2.2.1,rfl⟩
theorem t117:TQ3 117 true 4 [.int .i64 0,.slice none 0 0,.slice none 0 0,.slice none 0 0] [(0,1),(1,1),(2,1),(3,1)]:=kTQ3 (by kernel_rfl)
theorem r117:TR0 117 0 1 2 3:=⟨fun _ _ _=>⟨rfl,rfl,rfl,rfl⟩,fun _ _ _ _=>⟨rfl,rfl,rfl,rfl⟩⟩
theorem t127:TQ3 127 true 2 [.slice none 0 0,.int .i64 0] [(0,1),(1,1)]:=kTQ3 (by kernel_rfl)
theorem r127:TR4 127 0 1:=⟨fun _ _ _=>⟨rfl,rfl⟩,fun _ _=>⟨rfl,rfl⟩⟩
theorem t140:TQ4 140 (.slice 38) false 1 [.slice none 0 0]:=kTQ4 (by kernel_rfl)
theorem t142:TQ3 142 true 6 [.int .i64 0,.slice none 0 0,.slice none 0 0,.slice none 0 0,.slice none 0 0,.slice none 0 0] [(0,4),(4,1),(5,1)]:=kTQ3 (by kernel_rfl)
theorem r142:TR7 142 0 4 5:=⟨fun _ _ _=>⟨rfl,rfl,rfl⟩,fun _ _ _ _ _ _=>⟨rfl,rfl,rfl⟩⟩
theorem t144:TQ3 144 true 4 [.int .i64 0,.int .i64 0,.int .i64 0,.slice none 0 0] [(0,1),(1,1),(2,1),(3,1)]:=kTQ3 (by kernel_rfl)
theorem r144:TR0 144 0 1 2 3:=⟨fun _ _ _=>⟨rfl,rfl,rfl,rfl⟩,fun _ _ _ _=>⟨rfl,rfl,rfl,rfl⟩⟩
theorem e5:abEnv.fn 5=some Tryz.f5:=by kernel_rfl
theorem e6:abEnv.fn 6=some Tryz.f6:=by kernel_rfl
theorem e7:abEnv.fn 7=some Tryz.f7:=by kernel_rfl
theorem e8:abEnv.fn 8=some Tryz.f8:=by kernel_rfl
theorem e9:abEnv.fn 9=some Tryz.f9:=by kernel_rfl
theorem e10:abEnv.fn 10=some Tryz.f10:=by kernel_rfl
theorem t92:TQ5 92 (.pointer 171) false 1 [.pointer none]:=kTQ5 (by kernel_rfl)
theorem t171:TQ3 171 true 1 [.slice none 0 0] [(0,1)]:=kTQ3 (by kernel_rfl)
theorem r171:TR5 171 0:=⟨fun _ _ _=>rfl,fun _=>rfl⟩
theorem t173:TQ4 173 (.slice 74) false 1 [.slice none 0 0]:=kTQ4 (by kernel_rfl)
theorem t175:TQ4 175 (.slice 78) false 1 [.slice none 0 0]:=kTQ4 (by kernel_rfl)
theorem e12:abEnv.fn 12=some Tryz.f12:=by kernel_rfl
theorem e13:abEnv.fn 13=some Tryz.f13:=by kernel_rfl
theorem t102:TQ3 102 true 4 [.int .i64 0,.int .i64 0,.int .i64 0,.int .i64 0] [(0,1),(1,1),(2,1),(3,1)]:=kTQ3 (by kernel_rfl)
theorem r102:TR0 102 0 1 2 3:=⟨fun _ _ _=>⟨rfl,rfl,rfl,rfl⟩,fun _ _ _ _=>⟨rfl,rfl,rfl,rfl⟩⟩
theorem t104:TQ5 104 (.pointer 102) false 1 [.pointer none]:=kTQ5 (by kernel_rfl)
theorem t106:TQ3 106 true 1 [.pointer none] [(0,1)]:=kTQ3 (by kernel_rfl)
theorem r106:TR5 106 0:=⟨fun _ _ _=>rfl,fun _=>rfl⟩
theorem e14:abEnv.fn 14=some Tryz.f14:=by kernel_rfl
theorem t113:TQ0 113 false 1 [.nilFunc]:=kTQ0 (by kernel_rfl)
theorem t115:TQ0 115 false 1 [.nilFunc]:=kTQ0 (by kernel_rfl)
theorem e15:abEnv.fn 15=some Tryz.f15:=by kernel_rfl
theorem e16:abEnv.fn 16=some Tryz.f16:=by kernel_rfl
theorem t121:TQ0 121 false 1 [.nilFunc]:=kTQ0 (by kernel_rfl)
theorem t123:TQ0 123 false 1 [.nilFunc]:=kTQ0 (by kernel_rfl)
theorem e17:abEnv.fn 17=some Tryz.f17:=by kernel_rfl
theorem e18:abEnv.fn 18=some Tryz.f18:=by kernel_rfl
theorem e19:abEnv.fn 19=some Tryz.f19:=by kernel_rfl
theorem t131:TQ0 131 false 1 [.nilFunc]:=kTQ0 (by kernel_rfl)
theorem e20:abEnv.fn 20=some Tryz.f20:=by kernel_rfl
theorem t135:TQ0 135 false 1 [.nilFunc]:=kTQ0 (by kernel_rfl)
theorem e21:abEnv.fn 21=some Tryz.f21:=by kernel_rfl
theorem e22:abEnv.fn 22=some Tryz.f22:=by kernel_rfl
theorem t83:TQ0 83 false 1 [.nilFunc]:=kTQ0 (by kernel_rfl)
theorem t137:TQ3 137 true 3 [.int .i64 0,.bool false,.nilFunc] [(0,1),(1,1),(2,1)]:=kTQ3 (by kernel_rfl)
theorem r137:TR2 137 0 1 2:=⟨fun _ _ _=>⟨rfl,rfl,rfl⟩,fun _ _ _=>⟨rfl,rfl,rfl⟩⟩
theorem t138:TQ2 138 (.array 4 137) true 12 [.int .i64 0,.bool false,.nilFunc,.int .i64 0,.bool false,.nilFunc,.int .i64 0,.bool false,.nilFunc,.int .i64 0,.bool false,.nilFunc]:=kTQ2 (by kernel_rfl)
theorem e23:abEnv.fn 23=some Tryz.f23:=by kernel_rfl
theorem e24:abEnv.fn 24=some Tryz.f24:=by kernel_rfl
theorem e25:abEnv.fn 25=some Tryz.f25:=by kernel_rfl
theorem e26:abEnv.fn 26=some Tryz.f26:=by kernel_rfl
theorem e27:abEnv.fn 27=some Tryz.f27:=by kernel_rfl
theorem e28:abEnv.fn 28=some Tryz.f28:=by kernel_rfl
theorem e29:abEnv.fn 29=some Tryz.f29:=by kernel_rfl
theorem t150:TQ0 150 false 1 [.nilFunc]:=kTQ0 (by kernel_rfl)
theorem e30:abEnv.fn 30=some Tryz.f30:=by kernel_rfl
theorem e31:abEnv.fn 31=some Tryz.f31:=by kernel_rfl
theorem e32:abEnv.fn 32=some Tryz.f32:=by kernel_rfl
theorem t165:TQ5 165 (.pointer 169) false 1 [.pointer none]:=kTQ5 (by kernel_rfl)
theorem t166:TQ5 166 (.pointer 228) false 1 [.pointer none]:=kTQ5 (by kernel_rfl)
theorem t169:TQ3 169 true 2 [.pointer none,.string ⟨#[]⟩] [(0,1),(1,1)]:=kTQ3 (by kernel_rfl)
theorem r169:TR4 169 0 1:=⟨fun _ _ _=>⟨rfl,rfl⟩,fun _ _=>⟨rfl,rfl⟩⟩
theorem t228:TQ3 228 true 3 [.string ⟨#[]⟩,.int .i64 0,.pointer none] [(0,1),(1,1),(2,1)]:=kTQ3 (by kernel_rfl)
theorem r228:TR2 228 0 1 2:=⟨fun _ _ _=>⟨rfl,rfl,rfl⟩,fun _ _ _=>⟨rfl,rfl,rfl⟩⟩
theorem e34:abEnv.fn 34=some Tryz.f34:=by kernel_rfl
theorem e35:abEnv.fn 35=some Tryz.f35:=by kernel_rfl
theorem e36:abEnv.fn 36=some Tryz.f36:=by kernel_rfl
theorem e37:abEnv.fn 37=some Tryz.f37:=by kernel_rfl
theorem e38:abEnv.fn 38=some Tryz.f38:=by kernel_rfl
theorem e39:abEnv.fn 39=some Tryz.f39:=by kernel_rfl
theorem e40:abEnv.fn 40=some Tryz.f40:=by kernel_rfl
theorem e41:abEnv.fn 41=some Tryz.f41:=by kernel_rfl
theorem e42:abEnv.fn 42=some Tryz.f42:=by kernel_rfl
theorem e43:abEnv.fn 43=some Tryz.f43:=by kernel_rfl
theorem e44:abEnv.fn 44=some Tryz.f44:=by kernel_rfl
theorem t183:TQ0 183 false 1 [.nilFunc]:=kTQ0 (by kernel_rfl)
theorem t184:TQ0 184 false 1 [.nilFunc]:=kTQ0 (by kernel_rfl)
theorem e46:abEnv.fn 46=some Tryz.f46:=by kernel_rfl
theorem e47:abEnv.fn 47=some Tryz.f47:=by kernel_rfl
theorem t187:TQ2 187 (.map 3 3) false 1 [.map none]:=kTQ2 (by kernel_rfl)
theorem t188:TQ0 188 false 1 [.nilFunc]:=kTQ0 (by kernel_rfl)
theorem e48:abEnv.fn 48=some Tryz.f48:=by kernel_rfl
theorem e49:abEnv.fn 49=some Tryz.f49:=by kernel_rfl
theorem e50:abEnv.fn 50=some Tryz.f50:=by kernel_rfl
theorem e51:abEnv.fn 51=some Tryz.f51:=by kernel_rfl
theorem t112:TQ0 112 false 1 [.nilFunc]:=kTQ0 (by kernel_rfl)
theorem e52:abEnv.fn 52=some Tryz.f52:=by kernel_rfl
theorem t192:TQ3 192 true 3 [.slice none 0 0,.slice none 0 0,.slice none 0 0] [(0,1),(1,1),(2,1)]:=kTQ3 (by kernel_rfl)
theorem r192:TR2 192 0 1 2:=⟨fun _ _ _=>⟨rfl,rfl,rfl⟩,fun _ _ _=>⟨rfl,rfl,rfl⟩⟩
theorem t194:TQ0 194 false 1 [.nilFunc]:=kTQ0 (by kernel_rfl)
theorem e53:abEnv.fn 53=some Tryz.f53:=by kernel_rfl
theorem e54:abEnv.fn 54=some Tryz.f54:=by kernel_rfl
theorem e55:abEnv.fn 55=some Tryz.f55:=by kernel_rfl
theorem t120:TQ0 120 false 1 [.nilFunc]:=kTQ0 (by kernel_rfl)
theorem e56:abEnv.fn 56=some Tryz.f56:=by kernel_rfl
theorem e57:abEnv.fn 57=some Tryz.f57:=by kernel_rfl
theorem e58:abEnv.fn 58=some Tryz.f58:=by kernel_rfl
theorem e59:abEnv.fn 59=some Tryz.f59:=by kernel_rfl
theorem e60:abEnv.fn 60=some Tryz.f60:=by kernel_rfl
theorem e61:abEnv.fn 61=some Tryz.f61:=by kernel_rfl
theorem t98:TQ0 98 false 1 [.nilFunc]:=kTQ0 (by kernel_rfl)
theorem e62:abEnv.fn 62=some Tryz.f62:=by kernel_rfl
theorem e63:abEnv.fn 63=some Tryz.f63:=by kernel_rfl
theorem e64:abEnv.fn 64=some Tryz.f64:=by kernel_rfl
theorem e65:abEnv.fn 65=some Tryz.f65:=by kernel_rfl
theorem e66:abEnv.fn 66=some Tryz.f66:=by kernel_rfl
theorem e67:abEnv.fn 67=some Tryz.f67:=by kernel_rfl
theorem t130:TQ0 130 false 1 [.nilFunc]:=kTQ0 (by kernel_rfl)
theorem e68:abEnv.fn 68=some Tryz.f68:=by kernel_rfl
theorem e69:abEnv.fn 69=some Tryz.f69:=by kernel_rfl
theorem e70:abEnv.fn 70=some Tryz.f70:=by kernel_rfl
theorem e71:abEnv.fn 71=some Tryz.f71:=by kernel_rfl
theorem t202:TQ4 202 (.slice 4) false 1 [.slice none 0 0]:=kTQ4 (by kernel_rfl)
theorem e202E:eP zB 202 24 1 [.slice none 0 0]:=⟨⟨_,rfl,by kernel_rfl,by kernel_rfl⟩,t202.2.2.2.1,rfl⟩
theorem e72:abEnv.fn 72=some Tryz.f72:=by kernel_rfl
theorem e73:abEnv.fn 73=some Tryz.f73:=by kernel_rfl
theorem e74:abEnv.fn 74=some Tryz.f74:=by kernel_rfl
theorem e75:abEnv.fn 75=some Tryz.f75:=by kernel_rfl
theorem e76:abEnv.fn 76=some Tryz.f76:=by kernel_rfl
theorem e77:abEnv.fn 77=some Tryz.f77:=by kernel_rfl
theorem t146:TQ3 146 true 1 [.int .i64 0] [(0,1)]:=kTQ3 (by kernel_rfl)
theorem r146:TR5 146 0:=⟨fun _ _ _=>rfl,fun _=>rfl⟩
theorem e78:abEnv.fn 78=some Tryz.f78:=by kernel_rfl
theorem t149:TQ0 149 false 1 [.nilFunc]:=kTQ0 (by kernel_rfl)
theorem e79:abEnv.fn 79=some Tryz.f79:=by kernel_rfl
theorem e80:abEnv.fn 80=some Tryz.f80:=by kernel_rfl
theorem e81:abEnv.fn 81=some Tryz.f81:=by kernel_rfl
theorem e82:abEnv.fn 82=some Tryz.f82:=by kernel_rfl
theorem t110:TQ0 110 false 1 [.nilFunc]:=kTQ0 (by kernel_rfl)
theorem t209:TQ0 209 false 1 [.nilFunc]:=kTQ0 (by kernel_rfl)
theorem e83:abEnv.fn 83=some Tryz.f83:=by kernel_rfl
theorem t99:TQ0 99 false 1 [.nilFunc]:=kTQ0 (by kernel_rfl)
theorem t212:TQ2 212 (.array 2 39) true 2 [.slice none 0 0,.slice none 0 0]:=kTQ2 (by kernel_rfl)
theorem e84:abEnv.fn 84=some Tryz.f84:=by kernel_rfl
theorem e85:abEnv.fn 85=some Tryz.f85:=by kernel_rfl
theorem t216:TQ5 216 (.pointer 218) false 1 [.pointer none]:=kTQ5 (by kernel_rfl)
theorem t218:TQ3 218 true 6 [.string ⟨#[]⟩,.int .i64 0,.int .i64 0,.int .i64 0,.int .i64 0,.int .i64 0] [(0,1),(1,1),(2,4)]:=kTQ3 (by kernel_rfl)
theorem r218:TR8 218 0 1 2:=⟨fun _ _ _=>⟨rfl,rfl,rfl⟩,fun _ _ _ _ _ _=>⟨rfl,rfl,rfl⟩⟩
theorem e86:abEnv.fn 86=some Tryz.f86:=by kernel_rfl
theorem e87:abEnv.fn 87=some Tryz.f87:=by kernel_rfl
theorem e88:abEnv.fn 88=some Tryz.f88:=by kernel_rfl
theorem t223:TQ5 223 (.pointer 292) false 1 [.pointer none]:=kTQ5 (by kernel_rfl)
theorem t290:TQ4 290 (.slice 202) false 1 [.slice none 0 0]:=kTQ4 (by kernel_rfl)
theorem t292:TQ3 292 true 2 [.int .i64 0,.slice none 0 0] [(0,1),(1,1)]:=kTQ3 (by kernel_rfl)
theorem r292:TR4 292 0 1:=⟨fun _ _ _=>⟨rfl,rfl⟩,fun _ _=>⟨rfl,rfl⟩⟩
theorem e89:abEnv.fn 89=some Tryz.f89:=by kernel_rfl
theorem e90:abEnv.fn 90=some Tryz.f90:=by kernel_rfl
theorem e91:abEnv.fn 91=some Tryz.f91:=by kernel_rfl
theorem e92:abEnv.fn 92=some Tryz.f92:=by kernel_rfl
theorem e93:abEnv.fn 93=some Tryz.f93:=by kernel_rfl
theorem e94:abEnv.fn 94=some Tryz.f94:=by kernel_rfl
theorem t229:TQ4 229 (.slice 234) false 1 [.slice none 0 0]:=kTQ4 (by kernel_rfl)
theorem t231:TQ0 231 false 1 [.nilFunc]:=kTQ0 (by kernel_rfl)
theorem t234:TQ3 234 true 3 [.int .i64 0,.int .u64 0,.int .u32 0] [(0,1),(1,1),(2,1)]:=kTQ3 (by kernel_rfl)
theorem r234:TR2 234 0 1 2:=⟨fun _ _ _=>⟨rfl,rfl,rfl⟩,fun _ _ _=>⟨rfl,rfl,rfl⟩⟩
theorem e234E:eP zB 234 24 3 [.int .i64 0,.int .u64 0,.int .u32 0]:=⟨⟨_,rfl,by kernel_rfl,by kernel_rfl⟩,t234.2.2.1,rfl⟩
theorem e95:abEnv.fn 95=some Tryz.f95:=by kernel_rfl
theorem t237:TQ2 237 (.array 8 5) true 8 [.int .u8 0,.int .u8 0,.int .u8 0,.int .u8 0,.int .u8 0,.int .u8 0,.int .u8 0,.int .u8 0]:=kTQ2 (by kernel_rfl)
theorem t238:TQ1 238 (.int .u64) false 1 [.int .u64 0]:=kTQ1 (by kernel_rfl)
theorem e96:abEnv.fn 96=some Tryz.f96:=by kernel_rfl
theorem e97:abEnv.fn 97=some Tryz.f97:=by kernel_rfl
theorem e98:abEnv.fn 98=some Tryz.f98:=by kernel_rfl
theorem t79:TQ0 79 false 1 [.nilFunc]:=kTQ0 (by kernel_rfl)
theorem e99:abEnv.fn 99=some Tryz.f99:=by kernel_rfl
theorem t177:TQ3 177 true 1 [.pointer none] [(0,1)]:=kTQ3 (by kernel_rfl)
theorem r177:TR5 177 0:=⟨fun _ _ _=>rfl,fun _=>rfl⟩
theorem e100:abEnv.fn 100=some Tryz.f100:=by kernel_rfl
theorem t241:TQ0 241 false 1 [.nilFunc]:=kTQ0 (by kernel_rfl)
theorem t243:TQ0 243 false 1 [.nilFunc]:=kTQ0 (by kernel_rfl)
theorem e243E:eP zB 243 8 1 [.nilFunc]:=⟨⟨_,rfl,by kernel_rfl,by kernel_rfl⟩,t243.2.2.1,rfl⟩
theorem t245:TQ4 245 (.slice 243) false 1 [.slice none 0 0]:=kTQ4 (by kernel_rfl)
theorem t247:TQ3 247 true 6 [.int .i64 0,.int .i64 0,.int .i64 0,.int .i64 0,.int .i64 0,.int .i64 0] [(0,1),(1,1),(2,1),(3,1),(4,1),(5,1)]:=kTQ3 (by kernel_rfl)
theorem r247:TR9 247 0 1 2 3 4 5:=⟨fun _ _ _=>⟨rfl,rfl,rfl,rfl,rfl,rfl⟩,fun _ _ _ _ _ _=>⟨rfl,rfl,rfl,rfl,rfl,rfl⟩⟩
theorem e247E:eP zB 247 48 6 [.int .i64 0,.int .i64 0,.int .i64 0,.int .i64 0,.int .i64 0,.int .i64 0]:=⟨⟨_,rfl,by kernel_rfl,by kernel_rfl⟩,t247.2.2.1,rfl⟩
theorem e101:abEnv.fn 101=some Tryz.f101:=by kernel_rfl
theorem e103:abEnv.fn 103=some Tryz.f103:=by kernel_rfl
theorem e104:abEnv.fn 104=some Tryz.f104:=by kernel_rfl
theorem e105:abEnv.fn 105=some Tryz.f105:=by kernel_rfl
theorem e106:abEnv.fn 106=some Tryz.f106:=by kernel_rfl
theorem e107:abEnv.fn 107=some Tryz.f107:=by kernel_rfl
theorem e108:abEnv.fn 108=some Tryz.f108:=by kernel_rfl
theorem e109:abEnv.fn 109=some Tryz.f109:=by kernel_rfl
theorem e110:abEnv.fn 110=some Tryz.f110:=by kernel_rfl
theorem e111:abEnv.fn 111=some Tryz.f111:=by kernel_rfl
theorem t101:TQ3 101 true 4 [.int .i64 0,.int .i64 0,.int .i64 0,.int .i64 0] [(0,1),(1,1),(2,1),(3,1)]:=kTQ3 (by kernel_rfl)
theorem r101:TR0 101 0 1 2 3:=⟨fun _ _ _=>⟨rfl,rfl,rfl,rfl⟩,fun _ _ _ _=>⟨rfl,rfl,rfl,rfl⟩⟩
theorem t261:TQ5 261 (.pointer 267) false 1 [.pointer none]:=kTQ5 (by kernel_rfl)
theorem t262:TQ5 262 (.pointer 318) false 1 [.pointer none]:=kTQ5 (by kernel_rfl)
theorem t267:TQ3 267 true 5 [.pointer none,.slice none 0 0,.slice none 0 0,.slice none 0 0,.map none] [(0,1),(1,3),(4,1)]:=kTQ3 (by kernel_rfl)
theorem r267:TR10 267 0 1 4:=⟨fun _ _ _=>⟨rfl,rfl,rfl⟩,fun _ _ _ _ _=>⟨rfl,rfl,rfl⟩⟩
theorem t272:TQ0 272 false 1 [.nilFunc]:=kTQ0 (by kernel_rfl)
theorem t316:TQ3 316 true 2 [.slice none 0 0,.map none] [(0,1),(1,1)]:=kTQ3 (by kernel_rfl)
theorem r316:TR4 316 0 1:=⟨fun _ _ _=>⟨rfl,rfl⟩,fun _ _=>⟨rfl,rfl⟩⟩
theorem t318:TQ3 318 true 3 [.slice none 0 0,.map none,.int .i64 0] [(0,2),(2,1)]:=kTQ3 (by kernel_rfl)
theorem r318:TR11 318 0 2:=⟨fun _ _ _=>⟨rfl,rfl⟩,fun _ _ _=>⟨rfl,rfl⟩⟩
theorem e112:abEnv.fn 112=some Tryz.f112:=by kernel_rfl
theorem e113:abEnv.fn 113=some Tryz.f113:=by kernel_rfl
theorem e114:abEnv.fn 114=some Tryz.f114:=by kernel_rfl
theorem e115:abEnv.fn 115=some Tryz.f115:=by kernel_rfl
theorem e116:abEnv.fn 116=some Tryz.f116:=by kernel_rfl
theorem e117:abEnv.fn 117=some Tryz.f117:=by kernel_rfl
theorem e118:abEnv.fn 118=some Tryz.f118:=by kernel_rfl
theorem e119:abEnv.fn 119=some Tryz.f119:=by kernel_rfl
theorem e120:abEnv.fn 120=some Tryz.f120:=by kernel_rfl
theorem t199:TQ0 199 false 1 [.nilFunc]:=kTQ0 (by kernel_rfl)
theorem e121:abEnv.fn 121=some Tryz.f121:=by kernel_rfl
theorem e122:abEnv.fn 122=some Tryz.f122:=by kernel_rfl
theorem e123:abEnv.fn 123=some Tryz.f123:=by kernel_rfl
theorem e124:abEnv.fn 124=some Tryz.f124:=by kernel_rfl
theorem e125:abEnv.fn 125=some Tryz.f125:=by kernel_rfl
theorem e126:abEnv.fn 126=some Tryz.f126:=by kernel_rfl
theorem e127:abEnv.fn 127=some Tryz.f127:=by kernel_rfl
theorem e128:abEnv.fn 128=some Tryz.f128:=by kernel_rfl
theorem e129:abEnv.fn 129=some Tryz.f129:=by kernel_rfl
theorem e130:abEnv.fn 130=some Tryz.f130:=by kernel_rfl
theorem e131:abEnv.fn 131=some Tryz.f131:=by kernel_rfl
theorem e132:abEnv.fn 132=some Tryz.f132:=by kernel_rfl
theorem e133:abEnv.fn 133=some Tryz.f133:=by kernel_rfl
theorem e134:abEnv.fn 134=some Tryz.f134:=by kernel_rfl
theorem e135:abEnv.fn 135=some Tryz.f135:=by kernel_rfl
theorem e136:abEnv.fn 136=some Tryz.f136:=by kernel_rfl
theorem e137:abEnv.fn 137=some Tryz.f137:=by kernel_rfl
theorem e138:abEnv.fn 138=some Tryz.f138:=by kernel_rfl
theorem e139:abEnv.fn 139=some Tryz.f139:=by kernel_rfl
theorem t286:TQ0 286 false 1 [.nilFunc]:=kTQ0 (by kernel_rfl)
theorem e140:abEnv.fn 140=some Tryz.f140:=by kernel_rfl
theorem e141:abEnv.fn 141=some Tryz.f141:=by kernel_rfl
theorem e142:abEnv.fn 142=some Tryz.f142:=by kernel_rfl
theorem e143:abEnv.fn 143=some Tryz.f143:=by kernel_rfl
theorem e144:abEnv.fn 144=some Tryz.f144:=by kernel_rfl
theorem e145:abEnv.fn 145=some Tryz.f145:=by kernel_rfl
theorem e146:abEnv.fn 146=some Tryz.f146:=by kernel_rfl
theorem e147:abEnv.fn 147=some Tryz.f147:=by kernel_rfl
theorem e148:abEnv.fn 148=some Tryz.f148:=by kernel_rfl
theorem e149:abEnv.fn 149=some Tryz.f149:=by kernel_rfl
theorem e150:abEnv.fn 150=some Tryz.f150:=by kernel_rfl
theorem t230:TQ0 230 false 1 [.nilFunc]:=kTQ0 (by kernel_rfl)
theorem e151:abEnv.fn 151=some Tryz.f151:=by kernel_rfl
theorem e152:abEnv.fn 152=some Tryz.f152:=by kernel_rfl
theorem e153:abEnv.fn 153=some Tryz.f153:=by kernel_rfl
theorem e154:abEnv.fn 154=some Tryz.f154:=by kernel_rfl
theorem e155:abEnv.fn 155=some Tryz.f155:=by kernel_rfl
theorem e156:abEnv.fn 156=some Tryz.f156:=by kernel_rfl
theorem e157:abEnv.fn 157=some Tryz.f157:=by kernel_rfl
theorem t296:TQ2 296 (.array 16 78) true 16 [.int .u32 0,.int .u32 0,.int .u32 0,.int .u32 0,.int .u32 0,.int .u32 0,.int .u32 0,.int .u32 0,.int .u32 0,.int .u32 0,.int .u32 0,.int .u32 0,.int .u32 0,.int .u32 0,.int .u32 0,.int .u32 0]:=kTQ2 (by kernel_rfl)
theorem e158:abEnv.fn 158=some Tryz.f158:=by kernel_rfl
theorem e159:abEnv.fn 159=some Tryz.f159:=by kernel_rfl
theorem t299:TQ4 299 (.slice 247) false 1 [.slice none 0 0]:=kTQ4 (by kernel_rfl)
theorem e160:abEnv.fn 160=some Tryz.f160:=by kernel_rfl
theorem e161:abEnv.fn 161=some Tryz.f161:=by kernel_rfl
theorem e162:abEnv.fn 162=some Tryz.f162:=by kernel_rfl
theorem e163:abEnv.fn 163=some Tryz.f163:=by kernel_rfl
theorem t240:TQ0 240 false 1 [.nilFunc]:=kTQ0 (by kernel_rfl)
theorem e164:abEnv.fn 164=some Tryz.f164:=by kernel_rfl
theorem e165:abEnv.fn 165=some Tryz.f165:=by kernel_rfl
theorem e166:abEnv.fn 166=some Tryz.f166:=by kernel_rfl
theorem e167:abEnv.fn 167=some Tryz.f167:=by kernel_rfl
theorem e172:abEnv.fn 172=some Tryz.f172:=by kernel_rfl
theorem t314:TQ4 314 (.slice 322) false 1 [.slice none 0 0]:=kTQ4 (by kernel_rfl)
theorem t322:TQ3 322 true 2 [.int .i64 0,.int .i64 0] [(0,1),(1,1)]:=kTQ3 (by kernel_rfl)
theorem r322:TR4 322 0 1:=⟨fun _ _ _=>⟨rfl,rfl⟩,fun _ _=>⟨rfl,rfl⟩⟩
theorem e322E:eP zB 322 16 2 [.int .i64 0,.int .i64 0]:=⟨⟨_,rfl,by kernel_rfl,by kernel_rfl⟩,t322.2.2.1,rfl⟩
theorem e173:abEnv.fn 173=some Tryz.f173:=by kernel_rfl
theorem e174:abEnv.fn 174=some Tryz.f174:=by kernel_rfl
theorem e175:abEnv.fn 175=some Tryz.f175:=by kernel_rfl
theorem e176:abEnv.fn 176=some Tryz.f176:=by kernel_rfl
theorem e177:abEnv.fn 177=some Tryz.f177:=by kernel_rfl
theorem t271:TQ0 271 false 1 [.nilFunc]:=kTQ0 (by kernel_rfl)
theorem e178:abEnv.fn 178=some Tryz.f178:=by kernel_rfl
theorem e179:abEnv.fn 179=some Tryz.f179:=by kernel_rfl
theorem e180:abEnv.fn 180=some Tryz.f180:=by kernel_rfl
theorem e181:abEnv.fn 181=some Tryz.f181:=by kernel_rfl
theorem e182:abEnv.fn 182=some Tryz.f182:=by kernel_rfl
theorem e183:abEnv.fn 183=some Tryz.f183:=by kernel_rfl
theorem e184:abEnv.fn 184=some Tryz.f184:=by kernel_rfl
theorem e185:abEnv.fn 185=some Tryz.f185:=by kernel_rfl
theorem e186:abEnv.fn 186=some Tryz.f186:=by kernel_rfl
theorem e187:abEnv.fn 187=some Tryz.f187:=by kernel_rfl
theorem e188:abEnv.fn 188=some Tryz.f188:=by kernel_rfl
theorem e189:abEnv.fn 189=some Tryz.f189:=by kernel_rfl
theorem e190:abEnv.fn 190=some Tryz.f190:=by kernel_rfl
theorem e191:abEnv.fn 191=some Tryz.f191:=by kernel_rfl
theorem e192:abEnv.fn 192=some Tryz.f192:=by kernel_rfl
theorem e193:abEnv.fn 193=some Tryz.f193:=by kernel_rfl
theorem e194:abEnv.fn 194=some Tryz.f194:=by kernel_rfl
theorem e195:abEnv.fn 195=some Tryz.f195:=by kernel_rfl
theorem e196:abEnv.fn 196=some Tryz.f196:=by kernel_rfl
theorem e197:abEnv.fn 197=some Tryz.f197:=by kernel_rfl
theorem e198:abEnv.fn 198=some Tryz.f198:=by kernel_rfl
theorem e199:abEnv.fn 199=some Tryz.f199:=by kernel_rfl
theorem t293:TQ0 293 false 1 [.nilFunc]:=kTQ0 (by kernel_rfl)
theorem e200:abEnv.fn 200=some Tryz.f200:=by kernel_rfl
theorem e201:abEnv.fn 201=some Tryz.f201:=by kernel_rfl
theorem e202:abEnv.fn 202=some Tryz.f202:=by kernel_rfl
theorem e203:abEnv.fn 203=some Tryz.f203:=by kernel_rfl
theorem e204:abEnv.fn 204=some Tryz.f204:=by kernel_rfl
theorem e205:abEnv.fn 205=some Tryz.f205:=by kernel_rfl
theorem e206:abEnv.fn 206=some Tryz.f206:=by kernel_rfl
theorem t300:TQ0 300 false 1 [.nilFunc]:=kTQ0 (by kernel_rfl)
theorem e207:abEnv.fn 207=some Tryz.f207:=by kernel_rfl
theorem e208:abEnv.fn 208=some Tryz.f208:=by kernel_rfl
theorem e212:abEnv.fn 212=some Tryz.f212:=by kernel_rfl
theorem t339:TQ5 339 (.pointer 316) false 1 [.pointer none]:=kTQ5 (by kernel_rfl)
theorem e213:abEnv.fn 213=some Tryz.f213:=by kernel_rfl
theorem e214:abEnv.fn 214=some Tryz.f214:=by kernel_rfl
theorem e215:abEnv.fn 215=some Tryz.f215:=by kernel_rfl
theorem t288:TQ0 288 false 1 [.nilFunc]:=kTQ0 (by kernel_rfl)
theorem e216:abEnv.fn 216=some Tryz.f216:=by kernel_rfl
theorem t325:TQ0 325 false 1 [.nilFunc]:=kTQ0 (by kernel_rfl)
theorem e217:abEnv.fn 217=some Tryz.f217:=by kernel_rfl
theorem e218:abEnv.fn 218=some Tryz.f218:=by kernel_rfl
theorem e219:abEnv.fn 219=some Tryz.f219:=by kernel_rfl
theorem e220:abEnv.fn 220=some Tryz.f220:=by kernel_rfl
theorem e221:abEnv.fn 221=some Tryz.f221:=by kernel_rfl
theorem e222:abEnv.fn 222=some Tryz.f222:=by kernel_rfl
theorem e223:abEnv.fn 223=some Tryz.f223:=by kernel_rfl
theorem e224:abEnv.fn 224=some Tryz.f224:=by kernel_rfl
theorem e225:abEnv.fn 225=some Tryz.f225:=by kernel_rfl
theorem e226:abEnv.fn 226=some Tryz.f226:=by kernel_rfl
theorem e227:abEnv.fn 227=some Tryz.f227:=by kernel_rfl
theorem e228:abEnv.fn 228=some Tryz.f228:=by kernel_rfl
theorem e230:abEnv.fn 230=some Tryz.f230:=by kernel_rfl
theorem e231:abEnv.fn 231=some Tryz.f231:=by kernel_rfl
theorem e232:abEnv.fn 232=some Tryz.f232:=by kernel_rfl
theorem e233:abEnv.fn 233=some Tryz.f233:=by kernel_rfl
theorem e234:abEnv.fn 234=some Tryz.f234:=by kernel_rfl
theorem t346:TQ0 346 false 1 [.nilFunc]:=kTQ0 (by kernel_rfl)
theorem e235:abEnv.fn 235=some Tryz.f235:=by kernel_rfl
theorem e236:abEnv.fn 236=some Tryz.f236:=by kernel_rfl
theorem e237:abEnv.fn 237=some Tryz.f237:=by kernel_rfl
theorem e238:abEnv.fn 238=some Tryz.f238:=by kernel_rfl
theorem e239:abEnv.fn 239=some Tryz.f239:=by kernel_rfl
theorem e240:abEnv.fn 240=some Tryz.f240:=by kernel_rfl
theorem e241:abEnv.fn 241=some Tryz.f241:=by kernel_rfl
theorem e242:abEnv.fn 242=some Tryz.f242:=by kernel_rfl
theorem e243:abEnv.fn 243=some Tryz.f243:=by kernel_rfl
theorem e244:abEnv.fn 244=some Tryz.f244:=by kernel_rfl
theorem e245:abEnv.fn 245=some Tryz.f245:=by kernel_rfl
theorem e246:abEnv.fn 246=some Tryz.f246:=by kernel_rfl
end Tryz
set_option maxRecDepth 100000
def FA0:=aj t1<|aj t2<|aj t3<|aj t4<|aj t5<|aj t134<|aj t22<|aj t63<|aj t135<|aj t144<|aj r144<|aj t6<|aj t7<|aj r7<|aj t38<|aj t131<|aj t8<|aj r8<|aj t9<|aj t10<|aj t11<|aj t78<|aj t238<|aj t296<|aj t79<|aj t23<|aj t346<|aj t35<|aj t37<|aj r37<|aj t56<|aj t81<|aj r81<|aj t140<|aj t142<|aj r142<|aj t20<|aj t183<|aj t271<|aj t272<|aj t325<|aj t29<|aj t187<|aj t192<|aj r192<|aj t261<|aj t262<|aj t267<|aj r267<|aj t316<|aj r316<|aj t318<|aj r318<|aj t12<|aj t13<|aj r13<|aj t14<|aj r14<|aj t15<|aj t16<|aj t17<|aj t101<|aj r101<|aj t102<|aj r102<|aj t194<|aj t256<|aj t349<|aj r349<|aj t350<|aj t352<|aj t354<|aj t355<|aj t356<|aj t357<|aj t359<|aj r359<|aj t58<|aj t104<|aj t166<|aj t228<|aj r228<|aj t165<|aj t169<|aj r169<|aj t230<|aj t231<|aj t74<|aj t234<|aj r234<|aj t293<|aj t18<|aj r18<|aj t19<|aj r19<|aj t21<|aj t33<|aj t50<|aj r50<|aj t229<|aj t62<|aj t127<|aj r127<|aj t188<|aj t130<|aj t202<|aj t199<|aj t26<|aj t92<|aj t171<|aj r171<|aj t173<|aj t175<|aj t314<|aj t322<|aj r322<|aj t339<|aj t288<|aj t110<|aj t209<|aj t39<|aj t61<|aj t99<|aj t117<|aj r117<|aj t212<|aj t27<|aj t65<|aj r65<|aj t83<|aj t137<|aj r137<|aj t138<|aj t146<|aj r146<|aj t149<|aj t150<|aj t24<|aj r24<|aj t25<|aj r25<|aj t28<|aj t31<|aj t32<|aj t34<|aj t36<|aj r36<|aj t40<|aj r40<|aj t41<|aj r41<|aj t42<|aj r42<|aj t43<|aj r43<|aj t44<|aj t45<|aj t46<|aj t47<|aj t48<|aj t49<|aj r49<|aj t52<|aj t54<|aj r54<|aj t237<|aj t216<|aj t218<|aj r218<|aj t223<|aj t290<|aj t292<|aj r292<|aj t240<|aj t241<|aj t247<|aj r247<|aj t299<|aj t300<|aj t184<|aj t106<|aj r106<|aj t98<|aj t177<|aj r177<|aj t243<|aj t245<|aj t112<|aj t113<|aj t115<|aj t121<|aj t286<|aj t120<|t123
def BZ:=aj BS<|aj LB<|FA0
theorem erA{f:FuncId}{a:Func}{Q:Value->Hp->Prop}(hf:E.fn f=some a)(c:Run E (lim E) ⟨f,n,none⟩ (mw E rs (RetQ Q)) [.code body] .normal (LL n (cC args) [] none) h)(d:E.orc f args=none:=by exact rfl)(e:a.body=some body:=by exact rfl)(g:a.ntmps=n:=by exact rfl)(b:a.results.toList=rs:=by exact rfl)(hle:args.length<=n:=by exact lbt rfl):Ret E f args h Q:=enter_ret d hf e g b hle c
theorem enA{f:FuncId}{a:Func}{rc:Option (Value×Bool)}{Q:Out->Option (Value×Bool)->Hp->Prop}(hf:E.fn f=some a)(c:Run E (lim E) ⟨f,n,none⟩ (mw E rs Q) [.code body] .normal (LL n (cC args) [] rc) h)(d:E.orc f args=none:=by exact rfl)(e:a.body=some body:=by exact rfl)(g:a.ntmps=n:=by exact rfl)(b:a.results.toList=rs:=by exact rfl)(hle:args.length<=n:=by exact lbt rfl):dE E f args rc h Q:=enter d hf e g b hle c
theorem stA(S:St M c h L G){t:TypeId}{s:Option Nat}{l:List Value}(hs:E.sz t=some n)(hf:(ae v).all jx=true:=by exact rfl)(d:L[i]? =some (b,.row l md):=by exact rfl)(f:(ae v).length=n:=by exact rfl)(g: ∀x,v≠ .chan x:=by intro x e;cases e)(j:off+n<=l.length:=by exact lbt rfl)(a:md≠0:=by exact ono): ∃h',jT E h t (.pointer (some ⟨b,off,s⟩)) v=some h'/\St M c h' (L.set i (b,.row (lay l off (ae v)) md)) G/\Mo (· =b) h h':=S.store d hs g f hf j a
set_option maxRecDepth 10000
theorem values{a:Hp}(d:OZ a)(e:Fl v):Ret zB 206 [v] a fun r h'=>Gr a h'/\ ∃b,r=.func (.func 228) #[] #[ptrTo b]/\a.n<=b/\h'.load b 0 1=some [v]:=by have S:=Si d;refine erA (n:=4) (rs:=[.tmp 2]) Tryz.e206 ?_;simp only [BZ,seval];refine ag (dU (by assumption)) S ?_;clear S;intro h b S c;simp only [BZ,ab,seval];exact⟨S.gr,b,rfl,c,S.ld m0 rfl⟩
theorem xS{f:Hp}(d:OZ f){ps:List Pl}(u:f.load b 0 1=some [v])(hs:aH f 6 mi v ps)(q:ps.length<1000):Iter zB 228 [] [ptrTo b] f (fun c=>c=b\/aA v c) (ps.map fun p=>[.agg ⟨mi p⟩]):=by
 refine xe fun x J Z Y h F s k=>?_;refine enA (n:=16) (rs:=[]) Tryz.e228 ?_;have l:=s.load d u (.inl rfl);have e:=s.sl d hs (fun b h=>.inr h);simp only [BZ,l,e.lenq,seval];refine aD (fun(i:Nat) g h=>i<=ps.length/\ ∃F,ItS f (fun c=>c=b\/aA v c) h F/\J i h F/\g 0=.func (.yield x) #[] #[]/\g 5=v/\g 6=.int .i64 ps.length/\g 7=.int .i64 i) (fun i=>ps.length-i) ?_ 0 _ _ ?_
 . intro i y g h ⟨hi,F,s,k,r0,r5,r6,r7⟩;by_cases hlt:i<ps.length
   . have e:=s.sl d hs (fun b h=>.inr h);obtain⟨c,o,j,m⟩:=e.ix (kd:=.i64) encP_len hlt;have S:=Si s.ok;have w:am .i64 ((i:Int)+1)=((i+1:Nat):Int):=(by rw [wrap64]<;>omega);simp only [BZ,r5,r6,r7,aq,hlt,j,m,seval];refine ag ay S ?_;clear S;intro h z S r;simp only [BZ,mi,seval];refine au (stA S (i:=0) Tryz.t247.2.1) ?_;clear S;rintro h ⟨S,A⟩;clear A;simp only [LC,ae,lay,Xe,Xf,seval]at S;simp only [BZ,r0,S.lds (b:=z) (o:=0) (n:=6) m0 (lbt rfl),seval];refine iE Y (s.gr S.gr) (Y.gr _ _ _ _ k S.gr) (i:=i) (by simp [hlt,mi]) ?_ ?_ ?_
     . intro t B a C _ _;simp only [BZ,r7,w,seval];exact y (i+1) _ _ (by omega) ⟨by omega,B,C,a,by simp [ao,r0,r5,r6]⟩
     . intro t a _;simp only [BZ,seval];exact iP rfl ⟨rfl,.inr (.inl ⟨_,rfl,a⟩)⟩
     . intro v t a;simp only [BZ];exact cg (cy ⟨rfl,.inr (.inr ⟨_,rfl,a⟩)⟩)
   . simp only [BZ,r6,r7,aq,hlt,seval];have:i=ps.length:=(by omega);subst this;exact dG (cy ⟨rfl,_,rfl,rfl,.inl ⟨_,F,rfl,by simpa using k⟩⟩)
 . exact⟨by omega,F,s,k,by simp [ao,cC]⟩
def qr(e f:Nat)(ps:List Pl)(v:Value)(h':Hp):Prop:= ∃d a b,∃(D:Nat->Prop),v=.func (.func d) a b/\Iter zB d a.toList b.toList h' D (ps.map fun p=>[.agg ⟨mi p⟩])/\ ∀c,D c->c<e\/f<=c
theorem one_ok{a:Hp}(k:OZ a){c n d f:Int}:Ret zB 160 [.int .i64 c,.int .i64 n,.int .i64 d,.int .i64 f] a fun v h'=>Gr a h'/\qr 0 a.n [⟨0,0,c,n,d,f⟩] v h':=by
 have S:=Si k;refine erA (n:=16) (rs:=[.tmp 8]) Tryz.e160 ?_;simp only [BZ,seval];refine ag (bD (by exact Tryz.t299.1) (by exact Tryz.e247E) (by decide) (by rfl)) S ?_;clear S;intro h b S i;simp only [LC,bA,bN,ae,Xl,Xj,Xa,Xp,seval]at S;simp only [BZ,seval];have q:=S.fr.n;refine step_ret (values S.ok bW) ?_;intro v h ⟨g,b2,e,n2,l2⟩;replace S:=S.call g;subst e;simp only [BZ,ab,seval];have l:aH h 6 mi (.slice (some ⟨b,0,none⟩) 1 1) [⟨0,0,c,n,d,f⟩]:=.inr ⟨b,0,none,1,rfl,Xz _,S.lds (b:=b) (o:=0) (n:=1*6) m0 (lbt rfl)⟩;exact⟨S.gr,_,#[],#[ptrTo b2],_,rfl,xS S.ok l2 l (by simp),fun c j=>by rcases j with rfl|j;exact .inr (by omega);cases j;exact .inr i⟩
theorem shapes_ok(r:OZ d){a:Gra}(u:a.nodes<=300){k l m:Value}(p:cL d k l m a):Ret zB 162 [gc a k l m] d fun v h'=>Gr d h'/\qr 0 d.n [⟨0,0,6,a.X.length,a.nodes,(a.nodes+1:Nat)⟩,⟨0,1,6,a.Y.length,a.nodes,(a.nodes+1:Nat)⟩] v h':=by
 have S:=Si r;have w:am .i64 ((a.nodes:Int)+1)=((a.nodes+1:Nat):Int):=by rw [wrap64]<;>omega
 refine erA (n:=22) (rs:=[.tmp 2]) Tryz.e162 ?_;simp only [BZ,gc,seval];refine ag (bK (by intro x e;cases e)) S ?_;clear S;intro h b S s;simp only [ae]at S;simp only [BZ,p.X.lenq,p.Y.lenq,w,S.ld (b:=b) (o:=0) m0 rfl,S.ld (b:=b) (o:=1) m0 rfl,S.ld (b:=b) (o:=2) m0 rfl,seval];refine ag (bD (by exact Tryz.t299.1) (by exact Tryz.e247E) (by decide) (by rfl)) S ?_;clear S;intro h i S f;simp only [LC,bA,bN,ae,Xl,Xj,Xa,Xp,seval]at S;simp only [BZ,seval];have q:=S.fr.n;refine step_ret (values S.ok bW) ?_;intro v h ⟨g,b2,e,n2',l2⟩;replace S:=S.call g;subst e;simp only [BZ,ab,seval];have t:aH h 6 mi (.slice (some ⟨i,0,none⟩) 2 2) [⟨0,0,6,a.X.length,a.nodes,(a.nodes+1:Nat)⟩,⟨0,1,6,a.Y.length,a.nodes,(a.nodes+1:Nat)⟩]:=.inr ⟨i,0,none,2,rfl,Xz _,S.lds (b:=i) (o:=0) (n:=2*6) m0 (lbt rfl)⟩;exact⟨S.gr,_,#[],#[ptrTo b2],_,rfl,xS S.ok l2 t (by simp),fun c j=>by rcases j with rfl|j;exact .inr (by omega);cases j;exact .inr f⟩
theorem nodes_ok{a:Hp}(j:OZ a){d i:Value}:Ret zB 164 [.agg ⟨[i,d,f,g]⟩] a fun v h'=>Gr a h'/\ ∃b,v=.func (.func 207) #[] #[ptrTo b]/\a.n<=b/\Row h' b [i,d,f,g] 1:=by have S:=Si j;refine erA (n:=4) (rs:=[.tmp 2]) Tryz.e164 ?_;simp only [BZ,seval];refine ag (bK (by intro x e;cases e)) S ?_;clear S;intro h b S c;simp only [ae]at S;simp only [BZ,ab,seval];exact⟨S.gr,b,rfl,c,S.row m0⟩
theorem arcs_ok{a:Hp}(j:OZ a){d i:Value}:Ret zB 167 [.agg ⟨[i,d,f,g]⟩] a fun v h'=>Gr a h'/\ ∃b,v=.func (.func 208) #[] #[ptrTo b]/\a.n<=b/\Row h' b [i,d,f,g] 1:=by have S:=Si j;refine erA (n:=4) (rs:=[.tmp 2]) Tryz.e167 ?_;simp only [BZ,seval];refine ag (bK (by intro x e;cases e)) S ?_;clear S;intro h b S c;simp only [ae]at S;simp only [BZ,ab,seval];exact⟨S.gr,b,rfl,c,S.row m0⟩
def plN(X Y:List Int):List Pl:=(Xb X.length).flatMap fun(i:Nat)=>[⟨i,0,7,X.getD i 0,-2147483648,2147483648⟩,⟨i,1,7,Y.getD i 0,-2147483648,2147483648⟩]
theorem plN_len(X Y:List Int):(plN X Y).length=2*X.length:=by unfold plN;rw [X9];simp [Ya];omega
theorem plN_at(X Y:List Int)(c:i<X.length):(plN X Y)[2*i]? =some ⟨i,0,7,X.getD i 0,-2147483648,2147483648⟩/\(plN X Y)[2*i+1]? =some ⟨i,1,7,Y.getD i 0,-2147483648,2147483648⟩:=by
 unfold plN;have b: ∀(n j:Nat) (f:Nat->Pl) (k:Nat->Pl),j<n->((Xb n).flatMap fun i=>[f i,k i])[2*j]? =some (f j)/\((Xb n).flatMap fun i=>[f i,k i])[2*j+1]? =some (k j):=by
  intro n
  induction n with
  |zero=>intro j f k d;omega| succ n e=>
    intro j f k d;have a:((Xb n).flatMap fun i=>[f i,k i]).length=2*n:=(by rw [X9];simp [Ya];omega);rw [Yp,Xq];by_cases h:j<n
    . rw [XD (by omega),XD (by omega)];exact e j f k h
    . have:j=n:=(by omega);subst this;rw [Xs (by omega),Xs (by omega),a];simp
 exact b _ _ _ _ c
theorem E9{f:Hp}(d:OZ f){m r L M:Value}{X Y:List Int}(u:Row f b [M,m,r,L] 1)(H:aH f 1 (encI .i64) m X)(N:aH f 1 (encI .i64) r Y)(hl:X.length=Y.length)(I:X.length<1000):Iter zB 207 [] [ptrTo b] f (fun c=>c=b\/aA m c\/aA r c) ((plN X Y).map fun p=>[.agg ⟨mi p⟩]):=by
 refine xe fun O J Z x h F s t=>?_;refine enA (n:=38) (rs:=[]) Tryz.e207 ?_;have y:=s.load d (u.load1 (o:=1) rfl) (.inl rfl);simp only [BZ,y,H.lenq,seval];refine aD (fun(i:Nat) j h=>i<=X.length/\ ∃F,ItS f (fun c=>c=b\/aA m c\/aA r c) h F/\J (2*i) h F/\j 0=.func (.yield O) #[] #[]/\j 1=ptrTo b/\j 8=.int .i64 X.length/\j 9=.int .i64 i) (fun i=>X.length-i) ?_ 0 _ _ ?_
 . intro i P j h ⟨hi,F,s,t,r0,r1,r8,r9⟩;by_cases hlt:i<X.length
   . have z:=s.sl d H (fun b h=>.inr (.inl h));have A:=s.sl d N (fun b h=>.inr (.inr h));have y:=s.load d (u.load1 (o:=1) rfl) (.inl rfl);have Q:=s.load d (u.load1 (o:=2) rfl) (.inl rfl);obtain⟨c,o,k,B⟩:=z.ix (kd:=.i64) (aE _) hlt;obtain⟨c2,o2,g,l⟩:=A.ix (kd:=.i64) (aE _) (i:=i) (by omega);have S:=Si s.ok;have w:am .i64 ((i:Int)+1)=((i+1:Nat):Int):=(by rw [wrap64]<;>omega);simp only [BZ,r8,r9,aq,hlt,seval];refine av (aB rfl) (q:=1024) (ps:=[]) (by kernel_rfl) ?_;simp only [BZ,cls,r1,y,Q,k,g,B,l,encI,seval];refine dR (bD (by exact Tryz.t23.1) (by exact Tryz.e2E) (by decide) (by rfl)) S ?_;clear S;intro h e S C D;simp only [LC,bA,bN,ae,Xl,Xj,Xa,Xp,seval]at S;simp only [BZ,cls,Xc,seval];have T:am .i64 1=1:=rfl;have U:am .i64 2=2:=rfl;have K:=plN_at X Y hlt;rw [d9];simp only [BZ,Xc,r0,S.ld (b:=e) (o:=0) m0 rfl,S.ld (b:=e) (o:=1) m0 rfl,seval];refine iE x (s.gr S.gr) (x.gr _ _ _ _ t S.gr) (i:=2*i) (by rw [Xw,K.1];simp [mi,Xg,hlt]) ?_ ?_ ?_
     . intro V F2 a W E _;have nF:e∉F:=fun hm=>(by have:=s.lt _ hm;omega);have R:Row V e _ 1:=(S.row m0).of_get (E.get _ ((S.row m0).lt S.ok) nF);have R1:=R.load1 (o:=1) rfl;have aa:True:=trivial;simp only [BZ,T,seval];rw [d9];simp only [BZ,Xc,r0,R1,seval];refine iE x W a (i:=2*i+1) (by rw [Xw,K.2];simp [mi,Xg,show i<Y.length by omega]) ?_ ?_ ?_
       . intro h3 F3 a s3 _ _;simp only [BZ,U,seval];rw [d9];simp only [BZ,r9,w,seval];exact P (i+1) _ _ (by omega) ⟨by omega,F3,s3,a,by simp [ao,r0,r1,r8]⟩
       . intro G a _;simp only [BZ,seval];exact iP rfl ⟨rfl,.inr (.inl ⟨_,rfl,a⟩)⟩
       . intro v G a;simp only [BZ];exact cg (cy ⟨rfl,.inr (.inr ⟨_,rfl,a⟩)⟩)
     . intro G a _;simp only [BZ,seval];exact iP rfl ⟨rfl,.inr (.inl ⟨_,rfl,a⟩)⟩
     . intro v G a;simp only [BZ];exact cg (cy ⟨rfl,.inr (.inr ⟨_,rfl,a⟩)⟩)
   . simp only [BZ,r8,r9,aq,hlt,seval];have:i=X.length:=(by omega);subst this;exact dG (cy ⟨rfl,_,rfl,rfl,.inl ⟨_,F,rfl,by simpa [plN_len]using t⟩⟩)
 . exact⟨by omega,F,s,t,by simp [ao,cC,ah]⟩
def plA(n:Nat)(A:List Arc):List Pl:=(Xb A.length).flatMap fun(i:Nat)=>[⟨i,0,9,(A.getD i default).s,0,n⟩,⟨i,1,9,(A.getD i default).t,0,n⟩,⟨i,2,10,(A.getD i default).w,0,2147483648⟩]
theorem C4{b:Type}(f k l:Nat->b): ∀(n j:Nat),j<n->((Xb n).flatMap fun i=>[f i,k i,l i])[3*j]? =some (f j)/\((Xb n).flatMap fun i=>[f i,k i,l i])[3*j+1]? =some (k j)/\((Xb n).flatMap fun i=>[f i,k i,l i])[3*j+2]? =some (l j):=by
 intro n
 induction n with
 |zero=>intro j c;omega| succ n d=>
   intro j c;have a:((Xb n).flatMap fun i=>[f i,k i,l i]).length=3*n:=(by rw [X9];simp [Ya];omega);rw [Yp,Xq];by_cases h:j<n
   . rw [XD (by omega),XD (by omega),XD (by omega)];exact d j h
   . have:j=n:=(by omega);subst this;rw [Xs (by omega),Xs (by omega),Xs (by omega),a];simp
theorem plA_len(n:Nat)(A:List Arc):(plA n A).length=3*A.length:=by unfold plA;rw [X9];simp [Ya];omega
theorem arcs_iter{g:Hp}(d:OZ g){W m:Value}{A:List Arc}(H:Row g b [.int .i64 n,V,W,m] 1)(I:aH g 3 cR m A)(K:A.length<1000):Iter zB 208 [] [ptrTo b] g (fun c=>c=b\/aA m c) ((plA n A).map fun p=>[.agg ⟨mi p⟩]):=by
 refine xe fun X J Z j h F s t=>?_;refine enA (n:=44) (rs:=[]) Tryz.e208 ?_;have Y:=s.load d (H.load1 (o:=0) rfl) (.inl rfl);have l3:=s.load d (H.load1 (o:=3) rfl) (.inl rfl);simp only [BZ,Y,l3,I.lenq,seval];refine aD (fun(i:Nat) k h=>i<=A.length/\ ∃F,ItS g (fun c=>c=b\/aA m c) h F/\J (3*i) h F/\k 0=.func (.yield X) #[] #[]/\k 3=.int .i64 n/\k 11=m/\k 12=.int .i64 A.length/\k 13=.int .i64 i) (fun i=>A.length-i) ?_ 0 _ _ ?_
 . intro i ih k h ⟨hi,F,s,t,r0,r3,r11,r12,r13⟩;by_cases hlt:i<A.length
   . have u:=s.sl d I (fun b h=>.inr h);obtain⟨c,o,q,x⟩:=u.ix (kd:=.i64) dD hlt;have S:=Si s.ok;have w:am .i64 ((i:Int)+1)=((i+1:Nat):Int):=(by rw [wrap64]<;>omega);have w1:am .i64 1=1:=rfl;have w2:am .i64 2=2:=rfl;have w3:am .i64 3=3:=rfl;have y:=C4 (fun(i:Nat)=>(⟨i,0,9,(A.getD i default).s,0,n⟩:Pl)) (fun(i:Nat)=>⟨i,1,9,(A.getD i default).t,0,n⟩) (fun(i:Nat)=>⟨i,2,10,(A.getD i default).w,0,2147483648⟩) A.length i hlt;have z:A.getD i default=A[i]:=(by simp [Xg,hlt]);simp only [BZ,r11,r12,r13,aq,hlt,q,x,seval];refine ag ay S ?_;clear S;intro h B S L;simp only [BZ,cR,seval];refine au (stA S (i:=0) Tryz.t81.2.1) ?_;clear S;rintro h ⟨S,e⟩;clear e;simp only [LC,ae,lay,Xe,Xf,seval]at S;simp only [BZ,r3,S.ld (b:=B) (o:=0) m0 rfl,S.ld (b:=B) (o:=1) m0 rfl,S.ld (b:=B) (o:=2) m0 rfl,seval];refine ag (bD (by exact Tryz.t299.1) (by exact Tryz.e247E) (by decide) (by rfl)) S ?_;clear S;intro h f S M;simp only [LC,bA,bN,ae,Xl,Xj,Xa,Xp,seval]at S;simp only [BZ,Xc,seval];have N:f∉F:=fun l=>(by have:=s.lt _ l;omega);have R:Row h f _ 1:=S.row m0;have aa:=R.lt S.ok;rw [d9];simp only [BZ,Xc,S.lds (b:=f) (o:=0) (n:=6) m0 (lbt rfl),seval];refine ag ay S ?_;clear S;intro h b7 S O;simp only [BZ,Xy,XC,XF,seval];refine au (stA S (i:=0) Tryz.t247.2.1) ?_;clear S;rintro h ⟨S,e⟩;clear e;simp only [LC,ae,lay,Xe,Xf,seval]at S;simp only [BZ,r0,S.lds (b:=b7) (o:=0) (n:=6) m0 (lbt rfl),seval];have R:Row h f _ 1:=S.row m1;refine iE j (s.gr S.gr) (j.gr _ _ _ _ t S.gr) (i:=3*i) (by rw [Xw,show(plA n A)[3*i]? =_ from y.1,z];simp [mi]) ?_ ?_ ?_
     . intro h2 F2 a P C D;have R0:=R;replace R:Row h2 f _ 1:=R.of_get (C.get _ (R.lt S.ok) N);have E:f∉F2:=fun l=>by
        rcases D _ l with l|l
        . exact N l
        . have:=R0.lt S.ok;omega
       have S:=Si P.ok;simp only [BZ,w1,seval];rw [d9];simp only [BZ,Xc,R.load (o:=6) (n:=6) (lbt rfl),seval];refine ag ay S ?_;clear S;intro h b8 S Q;simp only [BZ,YL,Xy,XC,XF,seval];refine au (stA S (i:=0) Tryz.t247.2.1) ?_;clear S;rintro h ⟨S,e⟩;clear e;simp only [LC,ae,lay,Xe,Xf,seval]at S;simp only [BZ,r0,S.lds (b:=b8) (o:=0) (n:=6) m0 (lbt rfl),seval];replace R:=R.gr S.gr;refine iE j (P.gr S.gr) (j.gr _ _ _ _ a S.gr) (i:=3*i+1) (by rw [Xw,show(plA n A)[3*i+1]? =_ from y.2.1,z];simp [mi]) ?_ ?_ ?_
       . intro h3 F3 a T G ac;replace R:Row h3 f _ 1:=R.of_get (G.get _ (R.lt S.ok) E);have S:=Si T.ok;simp only [BZ,w2,seval];rw [d9];simp only [BZ,Xc,R.load (o:=12) (n:=6) (lbt rfl),seval];refine ag ay S ?_;clear S;intro h b9 S U;simp only [BZ,YL,Xy,XC,XF,seval];refine au (stA S (i:=0) Tryz.t247.2.1) ?_;clear S;rintro h ⟨S,e⟩;clear e;simp only [LC,ae,lay,Xe,Xf,seval]at S;simp only [BZ,r0,S.lds (b:=b9) (o:=0) (n:=6) m0 (lbt rfl),seval];refine iE j (T.gr S.gr) (j.gr _ _ _ _ a S.gr) (i:=3*i+2) (by rw [Xw,show(plA n A)[3*i+2]? =_ from y.2.2,z];simp [mi]) ?_ ?_ ?_
         . intro h4 F4 a s4 ad af;simp only [BZ,w3,seval];rw [d9];simp only [BZ,r13,w,seval];exact ih (i+1) _ _ (by omega) ⟨by omega,F4,s4,a,by simp [ao,r0,r3,r11,r12]⟩
         . intro r a _;simp only [BZ,seval];exact iP rfl ⟨rfl,.inr (.inl ⟨_,rfl,a⟩)⟩
         . intro v r a;simp only [BZ];exact cg (cy ⟨rfl,.inr (.inr ⟨_,rfl,a⟩)⟩)
       . intro r a _;simp only [BZ,seval];exact iP rfl ⟨rfl,.inr (.inl ⟨_,rfl,a⟩)⟩
       . intro v r a;simp only [BZ];exact cg (cy ⟨rfl,.inr (.inr ⟨_,rfl,a⟩)⟩)
     . intro r a _;simp only [BZ,seval];exact iP rfl ⟨rfl,.inr (.inl ⟨_,rfl,a⟩)⟩
     . intro v r a;simp only [BZ];exact cg (cy ⟨rfl,.inr (.inr ⟨_,rfl,a⟩)⟩)
   . simp only [BZ,r12,r13,aq,hlt,seval];have:i=A.length:=(by omega);subst this;exact dG (cy ⟨rfl,_,rfl,rfl,.inl ⟨_,F,rfl,by simpa [plA_len]using t⟩⟩)
 . exact⟨by omega,F,s,t,by simp [ao,cC]⟩
def phs(a:Gra):Nat->List Pl
 |0=>[⟨0,0,5,a.nodes,1,16777217⟩]|1=>[⟨0,0,6,a.X.length,a.nodes,(a.nodes+1:Nat)⟩,⟨0,1,6,a.Y.length,a.nodes,(a.nodes+1:Nat)⟩]|2=>plN a.X a.Y|3=>[⟨0,0,8,a.arcs.length,0,67108865⟩]|_=>plA a.nodes a.arcs
def inP(p:Pl):Prop:=p.lo<=p.n/\p.n<p.hi
theorem phs_right{b:Gra}(r:pK b):(∀i,i<5-> ∀p∈phs b i,inP p)↔gG b:=by
 have n:=r.lX;have o:=r.lY;have q:=r.n2;have m2:=r.many;constructor
 . intro h;refine⟨?_,fun x f=>?_,fun x f=>?_,fun a m=>?_⟩
   . have:=h 0 (by decide) _ (List.mem_singleton.2 rfl);unfold inP at this;simp only []at this;omega
   . obtain⟨i,c,rfl⟩:=List.mem_iff_getElem.1 f;have:=h 2 (by decide) _ (zM (plN_at b.X b.Y c).1);unfold inP at this;simp only [Xg,Xo c,XI]at this;omega
   . obtain⟨i,c,rfl⟩:=List.mem_iff_getElem.1 f;have:=h 2 (by decide) _ (zM (plN_at b.X b.Y (i:=i) (by omega)).2);unfold inP at this;simp only [Xg,Xo c,XI]at this;omega
   . obtain⟨i,c,rfl⟩:=List.mem_iff_getElem.1 m;have d:=C4 (fun(i:Nat)=>(⟨i,0,9,(b.arcs.getD i default).s,0,b.nodes⟩:Pl)) (fun(i:Nat)=>⟨i,1,9,(b.arcs.getD i default).t,0,b.nodes⟩) (fun(i:Nat)=>⟨i,2,10,(b.arcs.getD i default).w,0,2147483648⟩) b.arcs.length i c;have j:=h 4 (by decide) _ (zM d.1);have k:=h 4 (by decide) _ (zM d.2.1);have l:=h 4 (by decide) _ (zM d.2.2);unfold inP at j k l;simp only [Xg,Xo c,XI]at j k l;omega
 . intro g i c p d;have s:=g.n1;unfold inP
   match i,c with
   |0,_=>cases List.mem_singleton.1 d;simp only [];omega
   | 1,_=>
     simp only [phs,XQ,X4,or_false]at d;rcases d with rfl|rfl<;>(simp only [];omega)
   | 2,_=>
     simp only [phs,plN,List.mem_flatMap,YH,XQ,X4,or_false]at d;obtain⟨i,c,rfl|rfl⟩:=d
     . have:=g.cX b.X[i] (XJ c);simp only [Xg,Xo c,XI];omega
     . have e:i<b.Y.length:=(by omega);have:=g.cY b.Y[i] (XJ e);simp only [Xg,Xo e,XI];omega
   |3,_=>cases List.mem_singleton.1 d;simp only [];omega
   | 4,_=>
     simp only [phs,plA,List.mem_flatMap,YH,XQ,X4,or_false]at d;obtain⟨i,c,h⟩:=d;have:=g.arcs b.arcs[i] (XJ c);simp only [Xg,Xo c,XI]at h;rcases h with rfl|rfl|rfl<;>(simp only [];omega)
theorem look1_ok{a:Hp}(d:OZ a){c:Gra}{e i:Value}(j:Row a b [.int .i64 c.nodes,e,f,i] 1):Ret zB 159 [ptrTo b] a fun v h'=>Gr a h'/\qr 0 a.n (phs c 0) v h':=by have S:=Si d;refine erA (n:=5) (rs:=[.tmp 1]) Tryz.e159 ?_;simp only [BZ,j.load1 (o:=0) rfl,seval];refine step_ret (one_ok S.ok) ?_;intro v h ⟨g,t⟩;replace S:=S.call g;simp only [BZ,ab,seval];exact⟨S.gr,t⟩
theorem look2_ok{a:Hp}(j:OZ a){c:Gra}(d:pK c){e i:Value}(k:cL a e f i c)(l:Row a b [.int .i64 c.nodes,e,f,i] 1):Ret zB 161 [ptrTo b] a fun v h'=>Gr a h'/\qr 0 a.n (phs c 1) v h':=by have S:=Si j;refine erA (n:=4) (rs:=[.tmp 1]) Tryz.e161 ?_;simp only [BZ,l.load (o:=0) (n:=4) (lbt rfl),seval];refine step_ret (shapes_ok S.ok d.n2 k) ?_;intro v h ⟨g,t⟩;replace S:=S.call g;simp only [BZ,ab,seval];exact⟨S.gr,t⟩
theorem look4_ok{a:Hp}(i:OZ a){c:Gra}{d e:Value}(j:cL a d e f c)(k:Row a b [.int .i64 c.nodes,d,e,f] 1):Ret zB 165 [ptrTo b] a fun v h'=>Gr a h'/\qr 0 a.n (phs c 3) v h':=by have S:=Si i;refine erA (n:=6) (rs:=[.tmp 1]) Tryz.e165 ?_;simp only [BZ,k.load1 (o:=3) rfl,j.A.lenq,seval];refine step_ret (one_ok S.ok) ?_;intro v h ⟨g,t⟩;replace S:=S.call g;simp only [BZ,ab,seval];exact⟨S.gr,t⟩
theorem look3_ok{a:Hp}(q:OZ a){i:Gra}(d:pK i){j k m:Value}(p:cL a j k m i){l:Nat}(r: ∀c,aA j c->c<l)(s: ∀c,aA k c->c<l)(t:Row a b [.int .i64 i.nodes,j,k,m] 1):Ret zB 163 [ptrTo b] a fun v h'=>Gr a h'/\qr l a.n (phs i 2) v h':=by
 have S:=Si q;have u:=d.n2;have w:=d.lX;have x:=d.lY;refine erA (n:=4) (rs:=[.tmp 1]) Tryz.e163 ?_;simp only [BZ,t.load (o:=0) (n:=4) (lbt rfl),seval];refine step_ret (nodes_ok S.ok) ?_;intro v h ⟨g,b2,e,q2,R⟩;replace S:=S.call g;subst e;simp only [BZ,ab,seval];refine⟨S.gr,_,#[],#[ptrTo b2],_,rfl,E9 S.ok R (p.X.gr S.gr) (p.Y.gr S.gr) (by omega) (by omega),fun c f=>?_⟩;rcases f with rfl|f|f
 . exact .inr q2
 . exact .inl (r c f)
 . exact .inl (s c f)
theorem look5_ok{a:Hp}(p:OZ a){d:Gra}(f:pK d){k l i:Value}(q:cL a k l i d)(r: ∀c,aA i c->c<m)(s:Row a b [.int .i64 d.nodes,k,l,i] 1):Ret zB 166 [ptrTo b] a fun v h'=>Gr a h'/\qr m a.n (phs d 4) v h':=by
 have S:=Si p;have t:=f.many;refine erA (n:=4) (rs:=[.tmp 1]) Tryz.e166 ?_;simp only [BZ,s.load (o:=0) (n:=4) (lbt rfl),seval];refine step_ret (arcs_ok S.ok) ?_;intro v h ⟨g,b2,e,q2,R⟩;replace S:=S.call g;subst e;simp only [BZ,ab,seval];refine⟨S.gr,_,#[],#[ptrTo b2],_,rfl,arcs_iter S.ok R (q.A.gr S.gr) (by omega),fun c j=>?_⟩;rcases j with rfl|j
 . exact .inr q2
 . exact .inl (r c j)
theorem look_any{J:Hp}(Q:OZ J){G:Gra}(t:pK G){va:Value}(R:cL J vx vy va G):dE zB 101 [gc G vx vy va] none J fun o rc h'=>rc=none/\Gr J h'/\((gG G/\ ∃u,o=.ret u)\/(¬gG G/\ ∃b,o=.pan (.iface 177 (.agg ⟨[ptrTo b]⟩)))):=by
 have S:=Si Q;have right:=phs_right t;generalize gG G=RG at*
 refine enA (n:=44) (rs:=[]) Tryz.e101 ?_;simp only [BZ,gc,seval];refine ag (bK (by intro x e;cases e)) S ?_;clear S;intro h b S an;simp only [ae]at S;simp only [BZ,seval];refine ag (bD (by exact Tryz.t245.1) (by exact Tryz.e243E) (by decide) (by rfl)) S ?_;clear S;intro h bs S ai;simp only [LC,bA,bN,ae,Xl,Xj,Xa,Xp,seval]at S;simp only [BZ,Xc,seval];have A: ∀i,i<5-> ∃g a c,[Value.func (.func 159) #[] #[.pointer (some ⟨b,0,none⟩)],.func (.func 161) #[] #[.pointer (some ⟨b,0,none⟩)],.func (.func 163) #[] #[.pointer (some ⟨b,0,none⟩)],.func (.func 165) #[] #[.pointer (some ⟨b,0,none⟩)],.func (.func 166) #[] #[.pointer (some ⟨b,0,none⟩)]][i]? =some (.func (.func g) a c)/\
  ∀h',Gr h h'->Ret zB g (a.toList++c.toList) h' fun v l=>Gr h' l/\qr J.n h'.n (phs G i) v l:=by
  intro i hi;have K:=S.row (b:=b) m1;have E:=R.gr S.gr;have wk: ∀ps h' v l,Gr h' l/\qr 0 h'.n ps v l->Gr h' l/\qr J.n h'.n ps v l:=by rintro ps h' v l ⟨a,gi,a1,a2,D,b1,B,m⟩;exact⟨a,gi,a1,a2,D,b1,B,fun c M=>(m c M).elim (fun h=>by omega) .inr⟩
  match i,hi with
  |0,_=>exact⟨_,_,_,rfl,fun h' g=>iz (look1_ok g.ok (K.gr g)) (wk _ h')⟩
  |1,_=>exact⟨_,_,_,rfl,fun h' g=>iz (look2_ok g.ok t (E.gr g) (K.gr g)) (wk _ h')⟩
  |2,_=>exact⟨_,_,_,rfl,fun h' g=>look3_ok g.ok t (E.gr g) (fun c M=>R.X.lt Q M) (fun c M=>R.Y.lt Q M) (K.gr g)⟩
  |3,_=>exact⟨_,_,_,rfl,fun h' g=>iz (look4_ok g.ok (E.gr g) (K.gr g)) (wk _ h')⟩
  |4,_=>exact⟨_,_,_,rfl,fun h' g=>look5_ok g.ok t (E.gr g) (fun c M=>R.A.lt Q M) (K.gr g)⟩
 have Z:=S.row (b:=bs) m0;have g0:=S.gr;have T:=S.ok;clear S R Q t;revert A Z;generalize [Value.func (.func 159) #[] #[.pointer (some ⟨b,0,none⟩)],.func (.func 161) #[] #[.pointer (some ⟨b,0,none⟩)],.func (.func 163) #[] #[.pointer (some ⟨b,0,none⟩)],.func (.func 165) #[] #[.pointer (some ⟨b,0,none⟩)],.func (.func 166) #[] #[.pointer (some ⟨b,0,none⟩)]]=fs;revert right;generalize phs G=ph;intro right A Z;rename Hp=>O;have aL:=Z.lt T;have a0:=g0.n;have S:=Si T;refine tG (fun(i:Nat) ρ d h'=>i<=5/\(∀k,k<i-> ∀p∈ph k,inP p)/\ ∃f:List Nat,d=f.map tB/\St NoM O h' (dV f) []/\ρ 10=.slice (some ⟨bs,0,none⟩) 5 5/\ρ 11=.int .i64 5/\ρ 12=.int .i64 i) (fun i=>5-i) ?_ 0 _ _ _ ?_
 . clear S;intro i ih ρ d h ⟨hi,hin,f,U,S,r10,r11,r12⟩;have w:am .i64 ((i:Int)+1)=((i+1:Nat):Int):=(by rw [wrap64]<;>omega);by_cases hlt:i<5
   . obtain ⟨g,a,c,aa,K⟩:=A i hlt;have Rl:=(Z.gr S.gr).load1 aa;have z:(i:Int)<5:=(by omega);simp only [BZ,r10,r11,r12,z,hlt,Rl,seval];refine ag ay S ?_;clear S;intro h B S ak;simp only [BZ,seval];refine au (aw S (i:=0) rfl ?_ ?_ ?_ ono) ?_
     . exact(by simp only [FA0])
     . exact(by exact cE)
     . exact zO (lbt rfl)
     clear S;rintro h ⟨S,mo⟩;clear mo;simp only [LC,ae,lay,Xe,Xf,seval]at S;simp only [BZ,seval];have kl: ∀b∈keys ((B,.row [.int .i64 (i:Nat)] 1)::dV f) [],b<h.n:=fun b C=>S.key_lt C;refine step_ret (K _ S.gr) ?_;intro v h ⟨g,gi,a2,post,D,e,it,hD⟩;replace S:=S.call g;subst e;simp only [BZ];refine kH S (g:=gi) (a:=a2) (b:=post) (by simp [bS,ao]) rfl rfl ?_;intro h2 N P H a3 a4 g2;obtain⟨X,hX,H⟩: ∃X:iI,X=_/\St NoM O h2 ((P,.loop X)::(N,.dfr)::(B,.row [.int .i64 (i:Nat)] 1)::dV f) []:=⟨_,rfl,H⟩;have hJ:Yld zB P (fun j h' F=>St NoM O h' ((P,.loop X)::(N,.dfr)::(B,.row [.int .i64 (i:Nat)] 1)::dV f) []/\F=keys ((P,.loop X)::(N,.dfr)::(B,.row [.int .i64 (i:Nat)] 1)::dV f) []/\ ∀p∈(ph i).take j,inP p) (fun o h'=> ∃b X',o=.pan (.iface 177 (.agg ⟨[ptrTo b]⟩))/\St NoM O h' ((P,.loop X')::(N,.dfr)::(B,.row [.int .i64 (i:Nat)] 1)::dV f) []/\ ¬RG) ((ph i).map fun p=>[.agg ⟨mi p⟩]):=by
      refine⟨?_,?_,?_,?_⟩
      . rintro j h F ⟨S,rfl,_⟩;exact⟨S.ok,fun b C=>S.key_lt C⟩
      . rintro j h F h' ⟨S,rfl,q⟩ g;exact⟨S.call g,rfl,q⟩
      . rintro h h' ⟨_,_,e,_⟩;cases e
      . rintro j x h F hx ⟨S,rfl,hj⟩;obtain⟨p,V,rfl⟩: ∃p,(ph i)[j]? =some p/\x=[.agg ⟨mi p⟩]:=(by rw [Xw,Option.map_eq_some_iff]at hx;obtain⟨p,O,h2⟩:=hx;exact⟨p,O,h2.symm⟩);subst hX;refine kK (S.get m0) (by rw [Tryz.e101];rfl) rfl ?_;have S0:=S;replace S:=S.base;simp only [BZ];refine ag ay S ?_;clear S;intro h m S al;simp only [BZ,mi,seval];refine au (stA S (i:=0) Tryz.t247.2.1) ?_;clear S;rintro h ⟨S,mo⟩;clear mo;simp only [LC,ae,lay,Xe,Xf,seval]at S;simp only [BZ];refine jP S (i:=1) rfl rfl rfl rfl rfl ?_;clear S;intro h S;by_cases s:inP p
        . obtain⟨p1,p2⟩:=id s;have ac: ¬p.n<p.lo:=(by omega);have ad: ¬p.hi<=p.n:=(by omega);simp only [BZ,ac,ad,S.ld (b:=m) (o:=3) m0 rfl,S.ld (b:=m) (o:=4) m0 rfl,S.ld (b:=m) (o:=5) m0 rfl,seval];refine gR S (i:=1) rfl ?_;clear S;intro h S;refine .inl ⟨rfl,_,⟨S0.rebase S.drop1,rfl,fun q A=>?_⟩,S.fr,S.drop1.key_new⟩;rw [List.take_add_one,V]at A;rcases List.mem_append.1 A with A|A
          . exact hj q A
          . cases List.mem_singleton.1 A;exact s
        . have nr: ¬RG:=fun r=>s (right.2 r i hlt p (zM V));by_cases W:p.n<p.lo
          . simp only [BZ,W,S.ld (b:=m) (o:=0) m0 rfl,S.ld (b:=m) (o:=1) m0 rfl,S.ld (b:=m) (o:=2) m0 rfl,S.ld (b:=m) (o:=3) m0 rfl,S.ld (b:=m) (o:=4) m0 rfl,S.ld (b:=m) (o:=5) m0 rfl,S.ld (b:=B) (o:=0) m3 rfl,seval];refine ag (bK (by intro x e;cases e)) S ?_;clear S;intro h b5 S Y;simp only [ae]at S;simp only [BZ,seval];exact A6 (.inr (.inr ⟨⟨_,rfl⟩,b5,_,rfl,S0.rebase (S.drop1.drop1),nr⟩))
          . have af:p.hi<=p.n:=(by unfold inP at s;omega);simp only [BZ,W,af,S.ld (b:=m) (o:=0) m0 rfl,S.ld (b:=m) (o:=1) m0 rfl,S.ld (b:=m) (o:=2) m0 rfl,S.ld (b:=m) (o:=3) m0 rfl,S.ld (b:=m) (o:=4) m0 rfl,S.ld (b:=m) (o:=5) m0 rfl,S.ld (b:=B) (o:=0) m3 rfl,seval];refine ag (bK (by intro x e;cases e)) S ?_;clear S;intro h b5 S Y;simp only [ae]at S;simp only [BZ,seval];exact A6 (.inr (.inr ⟨⟨_,rfl⟩,b5,_,rfl,S0.rebase (S.drop1.drop1),nr⟩))
     refine d7 (CH it hJ (h:=h2) (F:=keys ((P,.loop _)::(N,.dfr)::(B,.row [.int .i64 (i:Nat)] 1)::dV f) []) g2.fr (fun b C hlt=>?_) ⟨H,rfl,by simp⟩) fun o rc h' y=>?_
     . intro U;have hS:=H.key_own C;rcases hD b U with hh|hh
       . rcases hS with hS|hS
         . omega
         . exact hS
       . rcases List.mem_cons.1 C with rfl|C
         . omega
         . rcases List.mem_cons.1 C with rfl|C
           . omega
           . have:=kl b C;omega
     . obtain⟨rfl,⟨u,F,rfl,S,rfl,I⟩|⟨u,_,b',X',e,_⟩|⟨v,rfl,b',X',e,S,nr⟩⟩:=y
       . subst hX;refine⟨_,S.get m0,Nat.zero_ne_one,?_⟩;replace S:=(S.dead.permL (List.Perm.swap _ _ _)).drop1;show Run _ _ _ _ _ _ _ _;simp only [BZ,r12,w,seval];exact ih (i+1) _ _ _ (by omega) ⟨by omega,fun k hk p V=>by
          rcases Nat.lt_or_eq_of_le (Nat.le_of_lt_succ hk)with h|rfl
          . exact hin k h p V
          . rw [List.length_map,XE]at I;exact I p V,N::f,by rw [U];rfl,S,by simp [ao,r10,r11]⟩
       . cases e
       . cases e;show Run _ _ _ _ _ _ _ _;simp only [BZ];subst U;refine cg (ib (N::f) _ (L:=[]) (by rw [Xv];exact(S.drop1.permL (List.Perm.swap _ _ _)).drop1) fun h' H=>?_);exact⟨rfl,g0.trans H.gr,.inr ⟨nr,b',rfl⟩⟩
   . have z: ¬(i:Int)<5:=(by omega);simp only [BZ,r11,r12,z,seval];subst U;have rr:RG:=right.1 fun k hk=>hin k (by omega);refine dG (ib f h (L:=[]) (by rw [Xv];exact S) fun h' H=>⟨rfl,_,rfl,rfl,g0.trans H.gr,.inl ⟨rr,_,rfl⟩⟩)
 . exact⟨by omega,fun k hk=>absurd hk (Nat.not_lt_zero k),[],rfl,S,by simp [ao]⟩
theorem aH.form{d:Type}{enc:d->List Value}{xs:List d}(s:aH h k enc v xs): ∃a n c,v=.slice a n c:=by rcases s with⟨rfl,_⟩|⟨b,o,s,c,rfl,_⟩<;>exact⟨_,_,_,rfl⟩
section
variable{M:Nat->Prop}{h0 h:Hp}{E:Env}{L:List (Nat×Ob)}{G:List GL}
def WrK{a:Type}(h:Hp)(k:Nat)(enc:a->List Value)(w:Value)(l:List a):Prop:=l≠ []-> ∃b,w=.slice (some ⟨b,0,some k⟩) l.length l.length/\Row h b (l.flatMap enc) 1
theorem WrK.mo{a:Type}{enc:a->List Value}{l:List a}(r:WrK h k enc w l)(g:Mo M h h')(c: ∀b,aA w b-> ¬M b):WrK h' k enc w l:=
 fun d=>by obtain⟨b,e,k⟩:=r d;exact⟨b,e,g.has (o:=.row _ 1) k (c b (by rw [e];rfl))⟩
theorem St.cloneW{l:Type}{enc:l->List Value}{ys:List l}(S:St M h0 h L G){t g e:TypeId}{y:List Value}{x:Value}(m:E.und t=some (.slice e))(o:eP E e a k y)(p:0<a)(q:fj E g=some false)(hs:aH h k enc x ys)(d: ∀x,(enc x).length=k)(r:0<k)(f:(ys.length*k)*(a+1)<=70368744177664){ts:List TypeId}(s:Row h b [] md):
 ∃h' v',dP E h (t::g::ts) (.slice (some ⟨b,0,none⟩) 0 0) x=some (h',v')/\St M h0 h' L G/\Gr h h'/\aH h' k enc v' ys/\(∀c,aA v' c->c=b\/h.n<=c)/\WrK h' k enc v' ys:=by
 obtain⟨h',v',u,z,A,B,C⟩:=S.cloneSl (enc:=enc) (xs:=[]) m o p q hs d r (by simpa using f) (ts:=ts) (b:=b) (md:=md) (by simpa using s);refine⟨h',v',u,z,A,by simpa using B,C,fun i=>?_⟩;obtain⟨D,F,v,H⟩:=S.clone m o p q hs.src (aK d ys).symm (n:=0) (by simp) r (by rw [aK d];simpa using f) (ts:=ts) s;have j:dP E h (t::g::ts) (.slice (some ⟨b,0,none⟩) 0 0) x=some (h',v'):=u;rw [j]at v;cases v;rcases H with⟨I,_⟩|⟨w,J,T⟩
 . exact absurd (List.length_eq_zero_iff.1 I) i
 . refine⟨w,by rw [J,Xj],?_⟩;have:=T.row (b:=w) m0;simpa using this
end
theorem check1_ok{a:Hp}(c:OZ a):dE zB 100 [ptrTo b] none a fun o rc h'=>(∃v,o=.ret v)/\rc=none/\Gr a h':=by have S:=Si c;refine enA (n:=17) (rs:=[]) Tryz.e100 ?_;simp only [BZ,seval];exact dG (cy ⟨rfl,_,rfl,⟨_,rfl⟩,rfl,S.gr⟩)
theorem check1_no{a:Hp}{c:Nat}(S:St M a hq L G)(e:L[i]? =some (b,.row [w] 1)):dE zB 100 [ptrTo b] (some (.iface 177 (.agg ⟨[ptrTo c]⟩),false)) hq fun o rc h'=>(∃v,o=.ret v)/\rc=some (.iface 177 (.agg ⟨[ptrTo c]⟩),true)/\St M a h' (L.set i (b,.row [.iface 177 (.agg ⟨[ptrTo c]⟩)] 1)) G:=by
 have j:=S.ok;refine enA (n:=17) (rs:=[]) Tryz.e100 ?_;simp only [BZ,seval];refine ag ay S ?_;clear S;intro h f S d;simp only [BZ,seval];refine au (stA S (i:=0) Tryz.t177.2.1) ?_;clear S;rintro h ⟨S,g⟩;clear g;simp only [LC,ae,lay,Xe,Xf,seval]at S;simp only [BZ,S.lds (b:=f) (o:=0) (n:=1) m0 (lbt rfl),seval];refine au (aw S (i:=i+1) e Tryz.t58.2.1 Dw (zO (lbt rfl)) ono) ?_;clear S;rintro h ⟨S,_⟩;simp only [LC,ae,lay,Xe,Xf,seval]at S;simp only [BZ];exact dG (cy ⟨rfl,_,rfl,⟨_,rfl⟩,rfl,S.drop1⟩)
theorem AW(z:OZ d){f:Gra}(j:pK f){m:Value}(A:cL d m p q f):Ret zB 44 [gc f m p q] d fun r h'=>Gr d h'/\((gG f/\r=.nilIface)\/(¬gG f/\ ∃t v,r=.iface t v)):=by
 have S:=Si z;refine erA (n:=6) (rs:=[.cell 2 58]) Tryz.e44 ?_;simp only [BZ,gc,seval];refine ag (bK (by intro x e;cases e)) S ?_;clear S;intro h b S B;simp only [ae]at S;simp only [BZ];refine ag ay S ?_;clear S;intro h s S w;simp only [BZ,S.lds (b:=b) (o:=0) (n:=4) m1 (lbt rfl),seval];refine ce (look_any S.ok j (A.gr S.gr)) ?_;rintro o y h ⟨rfl,g,⟨k,u,rfl⟩|⟨k,c,rfl⟩⟩
 . replace S:=S.call g;simp only [BZ,seval];refine au (aw S (i:=0) rfl ?_ ?_ ?_ ono) ?_
   . exact(by simp only [FA0])
   . exact(by exact fl_nili)
   . exact zO (lbt rfl)
   clear S;rintro h ⟨S,C⟩;clear C;simp only [LC,ae,lay,Xe,Xf,seval]at S;simp only [BZ];refine ig (un_fn (d7 (check1_ok S.ok) fun o y h' ⟨a,b,g⟩=>⟨a,b,cy ⟨rfl,?_⟩⟩));replace S:=S.call g;have l:=S.ld (b:=s) (o:=0) m0 rfl;exact⟨_,tV (by decide) (by simp only [az,ah,seval];exact zX Tryz.t58.1 l),S.gr,.inl ⟨k,rfl⟩⟩
 . replace S:=S.call g;simp only [BZ];refine cg (vS (d7 (check1_no S (i:=0) rfl) fun o y h' ⟨a,e,S⟩=>⟨a,_,_,e,cy ?_⟩));simp only [LC,Yh,X5]at S;simp only [if_true];have l:=S.ld (b:=s) (o:=0) m0 rfl;exact⟨_,tV (by decide) (by simp only [az,ah,seval];exact zX Tryz.t58.1 l),S.gr,.inr ⟨k,_,_,rfl⟩⟩
theorem check_ok{b:Hp}(h:OZ b){c:Gra}(a:jZ c){d e:Value}(i:cL b d e f c):cj zB 44 [gc c d e f] b .nilIface:=
 iz (AW h a.raw.1 i) fun _ _ ⟨g,q⟩=>⟨q.elim (fun x=>x.2) fun x=>absurd a.raw.2 x.1,g⟩
theorem vf{a:Hp}(i:OZ a)(hs:aH a 1 (encI .i64) v xs)(p:xs.length<1000000):Ret zB 106 [v] a fun r h'=>Gr a h'/\aH h' 1 (encI .i64) r xs/\ ∀c,aA r c->a.n<=c:=by
 have S:=Si i;rcases hs with⟨rfl,rfl⟩|⟨b,o,s,c,rfl,j,k⟩
 . refine erA (n:=8) (rs:=[.tmp 2]) Tryz.e106 ?_;simp only [BZ,ab,seval];exact⟨S.gr,.inl ⟨rfl,rfl⟩,fun c d=>d.elim⟩
 . refine erA (n:=8) (rs:=[.tmp 2]) Tryz.e106 ?_;simp only [BZ,seval];refine ag (bD (by exact Tryz.t23.1) (by exact Tryz.e2E) (by decide) (by rfl)) S ?_;clear S;intro h q S f;simp only [LC,bA,bN,ae,Xl,Xj,Xa,Xp,seval]at S;simp only [BZ,seval];refine dq (S.cloneSl (enc:=encI .i64) (xs:=[]) Tryz.t23.1 Tryz.e2E (by decide) Tryz.t23.2.2.2.2.2 (.inr ⟨b,o,s,c,rfl,j,S.old k (fun h=>h)⟩) (fun x=>rfl) (by decide) (by simp only [Yb,Xj];omega) (S.row m0)) ?_;rintro h' v ⟨l,g,m,d⟩;simp only [BZ,ab,seval];refine⟨l.gr,by simpa using m,fun c h=>(d c h).elim (fun e=>by omega) (fun e=>Xm S.fr.n e)⟩
theorem Ea{a:Hp}(i:OZ a){xs:List Arc}(hs:aH a 3 (cR) v xs)(p:xs.length<1000000):Ret zB 107 [v] a fun r h'=>Gr a h'/\aH h' 3 (cR) r xs/\(∀c,aA r c->a.n<=c)/\WrK h' 3 cR r xs:=by
 have S:=Si i;rcases hs with⟨rfl,rfl⟩|⟨b,o,s,c,rfl,j,k⟩
 . refine erA (n:=8) (rs:=[.tmp 2]) Tryz.e107 ?_;simp only [BZ,ab,seval];exact⟨S.gr,.inl ⟨rfl,rfl⟩,fun c d=>d.elim,fun h=>absurd rfl h⟩
 . refine erA (n:=8) (rs:=[.tmp 2]) Tryz.e107 ?_;simp only [BZ,seval];refine ag (bD (by exact Tryz.t35.1) (by exact Tryz.e81E) (by decide) (by rfl)) S ?_;clear S;intro h q S f;simp only [LC,bA,bN,ae,Xl,Xj,Xa,Xp,seval]at S;simp only [BZ,seval];refine dq (S.cloneW (enc:=cR) (ys:=xs) Tryz.t35.1 Tryz.e81E (by decide) Tryz.t35.2.2.2.2.2 (.inr ⟨b,o,s,c,rfl,j,S.old k (fun h=>h)⟩) (fun x=>rfl) (by decide) (by omega) (S.row m0)) ?_;rintro h' v ⟨l,g,m,d,w⟩;simp only [BZ,ab,seval];exact⟨l.gr,m,fun c h=>(d c h).elim (fun e=>by omega) (fun e=>Xm S.fr.n e),w⟩
structure DrAt(h:Hp)(bd:Nat)(vB:Value)(xs:List Int)(a:Nat):Prop where
 sl:aH h 1 (encI .u8) vB xs
 ne: ¬aA vB bd
 few:xs.length<1000000
 at_:a<100000
def drV(xs:List Int)(n a:Nat):Nat:=if h:xs.length=0 then 0 else(am .u8 (xs[a%xs.length]'(Nat.mod_lt _ (by omega))+am .u8 (am .i64 ((a:Int).tdiv (xs.length:Int))))%(n:Int)).toNat
theorem Dn{f:Hp}(B:OZ f){d:Nat}(p:Row f d [g,.int .i64 a] 1)(C:DrAt f d g xs a)(K:1<=n)(D:n<1000):Ret zB 42 [ptrTo d,.int .i64 n] f fun v h'=>Mo (· =d) f h'/\ ∃r x:Nat,v=.int .i64 r/\r<n/\x<=a+1/\Row h' d [g,.int .i64 x] 1/\r=drV xs n a:=by
 have S:=St.init1 B (o:=.row [g,.int .i64 a] 1) p;obtain⟨s,u,L,M⟩:=C;have N:=s.fl;have E:am .i64 ((a:Int)+1)=((a+1:Nat):Int):=by rw [wrap64]<;>omega
 have F:am .i64 (((a+1:Nat):Int)-1)=(a:Int):=by rw [wrap64]<;>omega
 have G: ¬(n:Int)<1:=by omega
 by_cases j:xs.length=0
 . have t:(xs.length:Int)=0:=(by omega);refine erA (n:=55) (rs:=[.tmp 4]) Tryz.e42 ?_;simp only [BZ,ab,s.lenq,t,S.ld (b:=d) (o:=0) m0 rfl,seval];exact⟨S.fr,0,a,rfl,by omega,by omega,S.row m0,by unfold drV;rw [dif_pos j]⟩
 . have t: ¬(xs.length:Int)=0:=(by omega);have k:a%xs.length<xs.length:=Nat.mod_lt _ (by omega);have H:(a:Int).tmod (xs.length:Int)=((a%xs.length:Nat):Int):=(by rw [X7 (by omega)];exact(Int.natCast_emod _ _).symm);refine erA (n:=55) (rs:=[.tmp 4]) Tryz.e42 ?_;simp only [BZ,s.lenq,t,G,E,S.ld (b:=d) (o:=0) m0 rfl,S.ld (b:=d) (o:=1) m0 rfl,seval];refine au (aw S (i:=0) rfl ?_ ?_ ?_ ono) ?_
   . exact(by simp only [FA0])
   . exact(by exact cE)
   . exact zO (lbt rfl)
   clear S;rintro h ⟨S,I⟩;clear I;simp only [LC,ae,lay,Xe,Xf,seval]at S;have l:aH h 1 (encI .u8) g xs:=s.mo S.fr (fun b J e=>u (e▸J));obtain⟨c,o,m,w⟩:=l.ix (kd:=.i64) (aE _) k;have y:(xs.length:Int)≠0:=t;have A:(n:Int)≠0:=(by omega);simp only [BZ];refine av (aB rfl) (q:=0) (ps:=[]) (by kernel_rfl) ?_;simp only [BZ,aV,ax,a9,cls,ab,l.lenq,F,fS y,iD y,fS A,H,m,w,encI,S.ld (b:=d) (o:=0) m0 rfl,S.ld (b:=d) (o:=1) m0 rfl,seval];have p:(am .i64 (am .u8 (xs[a%xs.length]+am .u8 (am .i64 ((a:Int).tdiv (xs.length:Int)))))).tmod (n:Int)=((drV xs n a:Nat):Int)/\drV xs n a<n:=(by unfold drV;rw [dif_neg j];generalize xs[a%xs.length]+am .u8 (am .i64 ((a:Int).tdiv (xs.length:Int)))=z;have O:=wrap8 z;rw [wrap64 (by omega) (by omega),X7 (by omega)];have P:=Int.emod_nonneg (am .u8 z) A;have Q:=Int.emod_lt_of_pos (am .u8 z) (show(0:Int)<n by omega);exact⟨by omega,by omega⟩);rw [p.1];exact⟨S.fr,_,a+1,rfl,p.2,Xz _,S.row m0,rfl⟩
theorem jC{b:Hp}(i:OZ b){c:Nat}(j:Row b c [g,.int .i64 a] 1)(k:DrAt b c g xs a)(l:1<=n)(h:n<1000):Ret zB 42 [ptrTo c,.int .i64 n] b fun v h'=>Mo (· =c) b h'/\ ∃r d:Nat,v=.int .i64 r/\r<n/\d<=a+1/\Row h' c [g,.int .i64 d] 1:=
 (Dn i j k l h).mono fun v h' ⟨f,r,d,e,m,o,p,_⟩=>⟨f,r,d,e,m,o,p⟩
theorem DrAt.mo{h h':Hp}{c:Nat}{g:Value}{xs:List Int}{a i:Nat}(d:DrAt h c g xs a)(f:Mo (· =c) h h')(j:i<100000):DrAt h' c g xs i:=
 ⟨d.sl.mo f (fun b k e=>d.ne (e▸k)),d.ne,d.few,j⟩
theorem Bp(y:OZ d)(z:Row d e [g,.int .i64 a] 1)(t:DrAt d e g xs a)(D:a+2<100000):Ret zB 43 [ptrTo e] d fun v h'=>Mo (· =e) d h'/\ ∃r u:Nat,v=.int .i64 r/\r<=2147483647/\u<=a+2/\Row h' e [g,.int .i64 u] 1:=by
 have S:=St.init1 y (o:=.row [g,.int .i64 a] 1) z;refine erA (n:=24) (rs:=[.tmp 2]) Tryz.e43 ?_;simp only [BZ,seval];refine step_ret (jC (n:=12) S.ok (S.row m0) t (by omega) (by omega)) ?_;rintro v h ⟨f,r,w,rfl,A,B,C⟩;replace S:=S.call1 (i:=0) rfl f (o':=.row _ _) C;have c:DrAt h e g xs w:=t.mo f (by omega);simp only [LC]at S;by_cases q:(r:Int)<3
 . simp only [BZ,ab,q,seval];exact⟨S.fr,0,w,rfl,by omega,by omega,S.row m0⟩
 . by_cases s:(r:Int)<10
   . simp only [BZ,q,s,seval];refine step_ret (jC (n:=9) S.ok (S.row m0) c (by omega) (by omega)) ?_;rintro v h ⟨f,b,j,rfl,k,l,m⟩;replace S:=S.call1 (i:=0) rfl f (o':=.row _ _) m;simp only [LC]at S;have p:am .i64 (1+(b:Int))=((1+b:Nat):Int):=(by rw [wrap64]<;>omega);simp only [BZ,ab,p,seval];exact⟨S.fr,1+b,j,rfl,by omega,by omega,S.row m0⟩
   . by_cases x:(r:Int)<11
     . simp only [BZ,q,s,x,seval];refine step_ret (jC (n:=20) S.ok (S.row m0) c (by omega) (by omega)) ?_;rintro v h ⟨f,b,j,rfl,k,l,m⟩;replace S:=S.call1 (i:=0) rfl f (o':=.row _ _) m;simp only [LC]at S;have p:am .i64 (100*(b:Int))=((100*b:Nat):Int):=(by rw [wrap64]<;>omega);simp only [BZ,ab,p,seval];exact⟨S.fr,100*b,j,rfl,by omega,by omega,S.row m0⟩
     . simp only [BZ,q,s,x,seval];refine step_ret (jC (n:=2) S.ok (S.row m0) c (by omega) (by omega)) ?_;rintro v h ⟨f,b,j,rfl,k,l,m⟩;replace S:=S.call1 (i:=0) rfl f (o':=.row _ _) m;simp only [LC]at S;have p:am .i64 (2147483647-(b:Int))=((2147483647-b:Nat):Int):=(by rw [wrap64]<;>omega);simp only [BZ,ab,p,seval];exact⟨S.fr,2147483647-b,j,rfl,by omega,by omega,S.row m0⟩
def ints(l:List Int):List Value:=l.flatMap (encI .i64)
theorem bR(l:List Int):(ints l).length=l.length:=by unfold ints;rw [aK (k:=1) (fun _=>rfl)];omega
theorem fk(l m:List Int):ints (l++m)=ints l++ints m:=by unfold ints;rw [Xq]
theorem raw0_ok{I:Hp}(ok:OZ I)(hr:Row I y [V,.int .i64 ((0:Nat):Int)] 1)(P:DrAt I y V xs 0):Ret zB 13 [ptrTo y] I fun v h'=>Mo (· =y) I h'/\ ∃γ vx vy va,v=gc γ vx vy va/\Good γ/\γ.nodes=1+drV xs 12 0/\cL h' vx vy va γ/\ ∀c,(aA vx c\/aA vy c\/aA va c)->I.n<=c:=by
 have S:=St.init1 ok (o:=.row [V,.int .i64 ((0:Nat):Int)] 1) hr;have bM:=hr.lt ok;refine erA (n:=117) (rs:=[.cell 2 37]) Tryz.e13 ?_;simp only [BZ];refine ag ay S ?_;clear S;intro h L S bx;simp only [BZ,seval];refine step_ret (Dn (n:=12) (a:=0) S.ok (S.row m1) (P.mo S.fr (by omega)) (by omega) (by omega)) ?_;rintro v h ⟨f,g,a0,rfl,bO,bP,R,bT⟩;replace S:=S.call1 (i:=1) rfl f (o':=.row _ _) R;simp only [LC]at S;have w1:am .i64 (1+(g:Int))=((1+g:Nat):Int):=by rw [wrap64]<;>omega
 simp only [BZ,w1,seval];refine ag ay S ?_;clear S;intro h r S bB;simp only [BZ,seval];refine au (stA S (i:=0) Tryz.t7.2.1) ?_;clear S;rintro h ⟨S,M⟩;clear M;simp only [LC,ae,lay,Xe,Xf,seval]at S;simp only [BZ];replace S:=((S.nilG (k:=3)).nilG (k:=1)).nilG (k:=1);generalize hN:1+g=N at S;refine aD (fun(i:Nat) e h=>i<=N/\ ∃(a:Nat) (C F:Value) (X Y:List Int),a<=1+2*i/\X.length=i/\Y.length=i/\(∀x∈X,-2147483648<=x/\x<=2147483647)/\(∀x∈Y,-2147483648<=x/\x<=2147483647)/\
  St (· =y) I h [(r,.row [.int .i64 N,C,F,.slice none 0 0] 1),(L,.row [.int .i64 0,.slice none 0 0,.slice none 0 0,.slice none 0 0] 1),(y,.row [V,.int .i64 a] 1)] [(C,1,ints X),(F,1,ints Y),(.slice none 0 0,3,[])]/\
  e 0=ptrTo y/\e 2=ptrTo L/\e 3=ptrTo r/\e 4=.int .i64 i) (fun i=>N-i) ?_ 0 _ _ ?_
 . clear S;intro i T e h ⟨hi,a,C,F,X,Y,ha,lX,lY,cX,cY,S,g,u,d,r4⟩;by_cases hlt:i<N
   . simp only [BZ,d,r4,aq,hlt,S.ld (b:=r) (o:=0) m0 rfl,seval];refine av (aB rfl) (q:=32) (ps:=[(1,3)]) (by kernel_rfl) ?_;simp only [BZ,cls,g,d,S.ld (b:=r) (o:=1) m0 rfl,seval];refine cF (jC (n:=9) (a:=a) S.ok (S.row m2) (P.mo S.fr (by omega)) (by omega) (by omega)) ?_;rintro v h ⟨f,r1,a1,rfl,b0,bh,R⟩;have hl:=S.leaves (c:=r) m0 f (by omega);replace S:=S.call1 (i:=2) rfl f (o':=.row _ _) R;simp only [LC]at S;have w9:am .i64 ((r1:Int)-3)=(r1:Int)-3:=(by rw [wrap64]<;>omega);simp only [BZ,cls,w9,seval];refine dR (bD (by exact Tryz.t23.1) (by exact Tryz.e2E) (by decide) (by rfl)) S ?_;clear S;intro h W S J aa;simp only [LC,bA,bN,ae,Xl,Xj,Xa,Xp,seval]at S;simp only [BZ,cls,seval];refine jo (S.grow (j:=0) (m:=1) (new:=ints [(r1:Int)-3]) rfl Tryz.t23.1 Tryz.e2E (by decide) Tryz.t23.2.2.2.2.2 (by simp only [aF];rw [S.lds (b:=W) (o:=0) (n:=1*1) m0 (lbt rfl)];rfl) rfl (by decide) rfl (by rw [bR,bR];simp;omega)) ?_;clear S;rintro h ak S;simp only [LC]at S;replace S:=S.drop1;rw [<-fk]at S;have fX:Fl ak:=(S.gown _ m0).1.fl;simp only [BZ,cls,d,seval];refine dM (aw S (i:=0) rfl ?_ ?_ ?_ ono) ?_
     . exact(by simp only [FA0])
     . exact(by assumption)
     . exact zO (lbt rfl)
     clear S;rintro h ⟨S,M⟩;clear M;simp only [LC,ae,lay,Xe,Xf,seval]at S;simp only [BZ,seval];refine⟨by simp only [aR,aZ,aM,bo,aP,ne_eq,not_false_eq_true,bj,bH,aQ,aO,bS,cq,az,XH,d,ah,aG hl,seval],?_⟩;refine av (aB rfl) (q:=16) (ps:=[(1,3)]) (by kernel_rfl) ?_;simp only [BZ,cls,g,d,S.ld (b:=r) (o:=2) m0 rfl,seval];clear f hl R;refine cF (jC (n:=7) (a:=a1) S.ok (S.row m2) (P.mo S.fr (by omega)) (by omega) (by omega)) ?_;rintro v h ⟨f,G,a2,rfl,bi,bk,R⟩;have hl:=S.leaves (c:=r) m0 f (by omega);replace S:=S.call1 (i:=2) rfl f (o':=.row _ _) R;simp only [LC]at S;simp only [BZ,cls,seval];refine dR (bD (by exact Tryz.t23.1) (by exact Tryz.e2E) (by decide) (by rfl)) S ?_;clear S;intro h W S J aa;simp only [LC,bA,bN,ae,Xl,Xj,Xa,Xp,seval]at S;simp only [BZ,cls,seval];refine jo (S.grow (j:=1) (m:=1) (new:=ints [(G:Int)]) rfl Tryz.t23.1 Tryz.e2E (by decide) Tryz.t23.2.2.2.2.2 (by simp only [aF];rw [S.lds (b:=W) (o:=0) (n:=1*1) m0 (lbt rfl)];rfl) rfl (by decide) rfl (by rw [bR,bR];simp;omega)) ?_;clear S;rintro h al S;simp only [LC]at S;replace S:=S.drop1;rw [<-fk]at S;have fY:Fl al:=(S.gown _ m1).1.fl;simp only [BZ,cls,d,seval];refine dM (aw S (i:=0) rfl ?_ ?_ ?_ ono) ?_
     . exact(by simp only [FA0])
     . exact(by assumption)
     . exact zO (lbt rfl)
     clear S;rintro h ⟨S,M⟩;clear M;simp only [LC,ae,lay,Xe,Xf,seval]at S;simp only [BZ,r4,seval];refine⟨by simp only [aR,aZ,aM,bo,aP,ne_eq,not_false_eq_true,bj,bH,aQ,aO,bS,cq,az,XH,d,ah,aG hl,seval],?_⟩;have w:am .i64 ((i:Int)+1)=((i+1:Nat):Int):=(by rw [wrap64]<;>omega);simp only [w];exact T (i+1) _ _ (by omega) ⟨by omega,a2,ak,al,_,_,by omega,by simp [lX],by simp [lY],
      fun x D=>(List.mem_append.1 D).elim (cX x) (fun h=>by simp at h;omega),fun x D=>(List.mem_append.1 D).elim (cY x) (fun h=>by simp at h;omega),S,by simp [ao,g,ah,u,d]⟩
   . have bl : i=N:=(by omega);subst bl;simp only [BZ,g,d,r4,aq,hlt,S.ld (b:=r) (o:=0) m0 rfl,seval];refine step_ret (jC (n:=9) (a:=a) S.ok (S.row m2) (P.mo S.fr (by omega)) (by omega) (by omega)) ?_;rintro v h ⟨f,G,a1,rfl,bi,bh,R⟩;replace S:=S.call1 (i:=2) rfl f (o':=.row _ _) R;simp only [LC]at S;simp only [BZ,seval];refine pC (fun e h=> ∃(X Y:List Int),X.length=i/\Y.length=i/\(∀x∈X,-2147483648<=x/\x<=2147483647)/\(∀x∈Y,-2147483648<=x/\x<=2147483647)/\
      St (· =y) I h [(r,.row [.int .i64 i,C,F,.slice none 0 0] 1),(L,.row [.int .i64 0,.slice none 0 0,.slice none 0 0,.slice none 0 0] 1),(y,.row [V,.int .i64 a1] 1)] [(C,1,ints X),(F,1,ints Y),(.slice none 0 0,3,[])]/\
      e 0=ptrTo y/\e 2=ptrTo L/\e 3=ptrTo r) ?_ ?_ ?_
     . intro _;obtain⟨bX,ix,an⟩:=S.gset (E:=zB) (t:=2) (j:=0) (i:=0) (kd:=.i64) rfl (by rw [bR];omega) Tryz.t2.2.2.1;have bm:iC (some 1) C (.int .i64 0)=_:=ix;simp only [BZ,d,bm,S.ld (b:=r) (o:=1) m0 rfl,seval];refine au (an _ cE) ?_;clear S an;intro h S;simp only [LC]at S;obtain⟨bY,iy,aL⟩:=S.gset (E:=zB) (t:=2) (j:=1) (i:=i-1) (kd:=.i64) rfl (by rw [bR];omega) Tryz.t2.2.2.1;have w1:am .i64 ((i:Int)-1)=((i-1:Nat):Int):=(by rw [wrap64]<;>omega);simp only [BZ,d,w1,iy,S.ld (b:=r) (o:=0) m0 rfl,S.ld (b:=r) (o:=2) m0 rfl,seval];refine au (aL _ cE) ?_;clear S aL;intro h S;simp only [LC]at S;simp only [BZ];have ac: ∀(l:List Int) (j:Nat) (z:Int),(ints l).set j (.int .i64 z)=ints (l.set j z):=by
        intro l
        induction l with
        |nil=>intro j z;rfl| cons x l T=>
          intro j z;cases j with
          |zero=>rfl|succ j=>show _::_=_::_;exact congrArg _ (T j z)
       rw [ac,ac]at S;refine cK ⟨_,_,by simp [lX],by simp [lY],fun x D=>?_,fun x D=>?_,S,by simp [ao,g,ah,u,d]⟩
       . rcases oN D with rfl|⟨j,_,D⟩
         . omega
         . exact cX x (zM D)
       . rcases oN D with rfl|⟨j,_,D⟩
         . omega
         . exact cY x (zM D)
     . intro _;simp only [BZ];exact cK ⟨X,Y,lX,lY,cX,cY,S,by simp [ao,g,ah,u,d]⟩
     . clear S g u d r4 lX lY cX cY X Y f R;rintro e h ⟨X,Y,lX,lY,cX,cY,S,g,u,d⟩;have w3:am .i64 (3*(i:Int))=((3*i:Nat):Int):=(by rw [wrap64]<;>omega);have w4:am .i64 (((3*i:Nat):Int)+1)=((3*i+1:Nat):Int):=(by rw [wrap64]<;>omega);simp only [BZ,g,d,w3,w4,S.ld (b:=r) (o:=0) m0 rfl,seval];refine step_ret (jC (n:=3*i+1) (a:=a1) S.ok (S.row m2) (P.mo S.fr (by omega)) (by omega) (by omega)) ?_;rintro v h ⟨f,B,a2,rfl,bn,bk,R⟩;replace S:=S.call1 (i:=2) rfl f (o':=.row _ _) R;simp only [LC]at S;simp only [BZ,g,seval];refine step_ret (jC (n:=3) (a:=a2) S.ok (S.row m2) (P.mo S.fr (by omega)) (by omega) (by omega)) ?_;rintro v h ⟨f,rr,a3,rfl,b1,b4,R⟩;replace S:=S.call1 (i:=2) rfl f (o':=.row _ _) R;simp only [LC]at S;simp only [BZ,seval];generalize decide ((0:Int)<(rr:Int))=ring;refine iS (fun e h=> ∃(a:Nat) (s:Value) (A:List Arc),a<=a3+2*i/\A.length<=i/\(∀x∈A,x.s<i/\x.t<i/\x.w<=2147483647)/\
        St (· =y) I h [(r,.row [.int .i64 i,C,F,s] 1),(L,.row [.int .i64 0,.slice none 0 0,.slice none 0 0,.slice none 0 0] 1),(y,.row [V,.int .i64 a] 1)] [(C,1,ints X),(F,1,ints Y),(s,3,A.flatMap cR)]/\
        e 0=ptrTo y/\e 2=ptrTo L/\e 3=ptrTo r/\e 5=.int .i64 B)
        (fun(j:Nat) e h=>j<=i/\ ∃(a:Nat) (s:Value) (A:List Arc),a<=a3+2*j/\A.length<=j/\(∀x∈A,x.s<i/\x.t<i/\x.w<=2147483647)/\
        St (· =y) I h [(r,.row [.int .i64 i,C,F,s] 1),(L,.row [.int .i64 0,.slice none 0 0,.slice none 0 0,.slice none 0 0] 1),(y,.row [V,.int .i64 a] 1)] [(C,1,ints X),(F,1,ints Y),(s,3,A.flatMap cR)]/\
        e 0=ptrTo y/\e 2=ptrTo L/\e 3=ptrTo r/\e 5=.int .i64 B/\e 6=.bool ring/\e 7=.int .i64 j) (fun j=>i-j) ?_ ?_ 0 ⟨by omega,a3,_,[],by omega,by simp,by simp,S,by simp [ao,g,ah,u,d]⟩
       . clear S g u d f R T;intro j T e h ⟨hj,a,s,A,ha,lA,O,S,g,u,d,G,r6,r7⟩;have K:(A.flatMap cR).length=A.length*3:=aK dD A;by_cases hlt:j<i/\ring=true
         . obtain⟨hlt,H⟩:=hlt;subst H;have w1:am .i64 ((j:Int)+1)=((j+1:Nat):Int):=(by rw [wrap64]<;>omega);have ci:(i:Int)≠0:=(by omega);have tm:((j+1:Nat):Int).tmod (i:Int)=(((j+1)%i:Nat):Int):=(by rw [X7 (by omega)];exact(Int.natCast_emod _ _).symm);simp only [BZ,d,r6,r7,aq,hlt,S.ld (b:=r) (o:=0) m0 rfl,seval];refine av (aB rfl) (q:=2048) (ps:=[(6,9),(1,9)]) (by kernel_rfl) ?_;simp only [BZ,cls,g,d,r7,w1,fS ci,tm,S.ld (b:=r) (o:=0) m0 rfl,S.ld (b:=r) (o:=3) m0 rfl,seval];refine cF (Bp (a:=a) S.ok (S.row m2) (P.mo S.fr (by omega)) (by omega)) ?_;rintro v h ⟨f,U,a4,rfl,Z,bp,R⟩;have hl:=S.leaves (c:=r) m0 f (by omega);replace S:=S.call1 (i:=2) rfl f (o':=.row _ _) R;simp only [LC]at S;simp only [BZ,cls,seval];refine dR (bD (by exact Tryz.t35.1) (by exact Tryz.e81E) (by decide) (by rfl)) S ?_;clear S;intro h W S J aa;simp only [LC,bA,bN,ae,Xl,Xj,Xa,Xp,seval]at S;simp only [BZ,cls,seval];refine jo (S.grow (j:=2) (m:=1) (new:=cR ⟨j,(j+1)%i,U⟩) rfl Tryz.t35.1 Tryz.e81E (by decide) Tryz.t35.2.2.2.2.2 (by simp only [aF];rw [S.lds (b:=W) (o:=0) (n:=1*3) m0 (lbt rfl)];rfl) rfl (by decide) rfl (by rw [K,dD];omega)) ?_;clear S;rintro h Q S;simp only [LC]at S;replace S:=S.drop1;have fA:Fl Q:=(S.gown _ m2).1.fl;simp only [BZ,cls,d,seval];refine dM (aw S (i:=0) rfl ?_ ?_ ?_ ono) ?_
           . exact(by simp only [FA0])
           . exact(by assumption)
           . exact zO (lbt rfl)
           clear S;rintro h ⟨S,M⟩;clear M;simp only [LC,ae,lay,Xe,Xf,seval]at S;simp only [BZ,r7,seval];refine⟨by simp only [aR,aZ,aM,bo,aP,ne_eq,not_false_eq_true,bj,bH,aQ,aO,bS,cq,az,XH,d,ah,aG hl,seval],?_⟩;simp only [w1];have a8:(j+1)%i<i:=Nat.mod_lt _ (by omega);exact T (j+1) _ _ (by omega) ⟨by omega,a4,Q,A++[⟨j,(j+1)%i,U⟩],by omega,by simp;omega,
            fun x D=>(List.mem_append.1 D).elim (O x) (fun h=>by simp at h;subst h;exact⟨hlt,a8,Z⟩),by rw [Xq];simpa using S,by simp [ao,g,ah,u,d,G,r6]⟩
         . by_cases ad:j<i
           . have H:ring=false:=by cases ring with
              |false=>rfl|true=>exact absurd ⟨ad,rfl⟩ hlt
             subst H;simp only [BZ,d,r6,r7,aq,ad,S.ld (b:=r) (o:=0) m0 rfl,seval];exact cK ⟨a,s,A,by omega,by omega,O,S,by simp [ao,g,ah,u,d,G]⟩
           . simp only [BZ,d,r7,aq,ad,S.ld (b:=r) (o:=0) m0 rfl,seval];exact cK ⟨a,s,A,by omega,by omega,O,S,by simp [ao,g,ah,u,d,G]⟩
       . clear S g u d f R T;rintro e h ⟨a,s,A,ha,lA,O,S,g,u,d,G⟩;simp only [BZ];refine iS (fun e h=> ∃(a:Nat) (s:Value) (A:List Arc),A.length<=100/\(∀x∈A,x.s<i/\x.t<i/\x.w<=2147483647)/\
          St (· =y) I h [(r,.row [.int .i64 i,C,F,s] 1),(L,.row [.int .i64 0,.slice none 0 0,.slice none 0 0,.slice none 0 0] 1),(y,.row [V,.int .i64 a] 1)] [(C,1,ints X),(F,1,ints Y),(s,3,A.flatMap cR)]/\
          e 0=ptrTo y/\e 2=ptrTo L/\e 3=ptrTo r)
          (fun(k:Nat) e h=>k<=B/\ ∃(a:Nat) (s:Value) (A:List Arc),a<=a3+2*i+6*k/\A.length<=i+2*k/\(∀x∈A,x.s<i/\x.t<i/\x.w<=2147483647)/\
          St (· =y) I h [(r,.row [.int .i64 i,C,F,s] 1),(L,.row [.int .i64 0,.slice none 0 0,.slice none 0 0,.slice none 0 0] 1),(y,.row [V,.int .i64 a] 1)] [(C,1,ints X),(F,1,ints Y),(s,3,A.flatMap cR)]/\
          e 0=ptrTo y/\e 2=ptrTo L/\e 3=ptrTo r/\e 5=.int .i64 B/\e 8=.int .i64 k) (fun k=>B-k) ?_ ?_ 0 ⟨by omega,a,s,A,by omega,by omega,O,S,by simp [ao,g,ah,u,d,G]⟩
         . clear S g u d G ha lA O a s A;intro k T e h ⟨hk,a,s,A,ha,lA,O,S,g,u,d,G,r8⟩;have K:(A.flatMap cR).length=A.length*3:=aK dD A;by_cases hlt:k<B
           . simp only [BZ,G,r8,aq,hlt,seval];refine av (Bb (ord:=[11,0,1,2,3,4,5,6,7,8,9,10,12]) rfl rfl (by simp only [gQ,reix,hU,YB,YC,List.map_toArray,XM,Yv,cond_true,cond_false,seval];exact rfl)) (q:=1) (ps:=[(0,10),(0,8),(4,7),(0,4)]) (by kernel_rfl) ?_;simp only [BZ,cls,seval];refine dR ay S ?_;clear S;intro h b9 S bL ba;simp only [BZ,cls,g,d,S.ld (b:=r) (o:=0) m1 rfl,seval];refine cF (jC (n:=i) (a:=a) S.ok (S.row m3) (P.mo S.fr (by omega)) (by omega) (by omega)) ?_;rintro v h ⟨f,s1,a4,rfl,bb,bp,R⟩;have br:=S.leaves (c:=b9) m0 f (by omega);have bt:=S.leaves (c:=r) m1 f (by omega);replace S:=S.call1 (i:=3) rfl f (o':=.row _ _) R;simp only [LC]at S;simp only [BZ,cls,g,d,S.ld (b:=r) (o:=0) m1 rfl,seval];refine cF (jC (n:=i) (a:=a4) S.ok (S.row m3) (P.mo S.fr (by omega)) (by omega) (by omega)) ?_;rintro v h ⟨f,s2,a5,rfl,bc,b5,R⟩;have bu:=S.leaves (c:=b9) m0 f (by omega);have bv:=S.leaves (c:=r) m1 f (by omega);replace S:=S.call1 (i:=3) rfl f (o':=.row _ _) R;simp only [LC]at S;simp only [BZ,cls,g,seval];refine cF (Bp (a:=a5) S.ok (S.row m3) (P.mo S.fr (by omega)) (by omega)) ?_;rintro v h ⟨f,U,a6,rfl,Z,b6,R⟩;have bw:=S.leaves (c:=b9) m0 f (by omega);replace S:=S.call1 (i:=3) rfl f (o':=.row _ _) R;simp only [LC]at S;simp only [BZ,cls,seval];refine dM (stA S (i:=0) Tryz.t81.2.1) ?_;clear S;rintro h ⟨S,M⟩;clear M;simp only [LC,ae,lay,Xe,Xf,seval]at S;simp only [BZ,d,seval];refine⟨by simp only [aR,aZ,aM,bo,aP,ne_eq,not_false_eq_true,bj,bH,aQ,aO,bS,cq,az,XH,d,ah,<-ba,aG br,aG bu,aG bv,aG bw,aJ bt,seval],?_⟩;simp only [BZ,S.ld (b:=r) (o:=3) m1 rfl,S.lds (b:=b9) (o:=0) (n:=3) m0 (lbt rfl),seval];refine ag (bD (by exact Tryz.t35.1) (by exact Tryz.e81E) (by decide) (by rfl)) S ?_;clear S;intro h W S J;simp only [LC,bA,bN,ae,Xl,Xj,Xa,Xp,seval]at S;simp only [BZ,seval];refine dq (S.grow (j:=2) (m:=1) (new:=cR ⟨s1,s2,U⟩) rfl Tryz.t35.1 Tryz.e81E (by decide) Tryz.t35.2.2.2.2.2 (by simp only [aF];rw [S.lds (b:=W) (o:=0) (n:=1*3) m0 (lbt rfl)];rfl) rfl (by decide) rfl (by rw [K,dD];omega)) ?_;clear S;rintro h Q S;simp only [LC]at S;replace S:=S.drop1;have fA:Fl Q:=(S.gown _ m2).1.fl;simp only [BZ,d,seval];refine au (aw S (i:=1) rfl ?_ ?_ ?_ ono) ?_
             . exact(by simp only [FA0])
             . exact(by assumption)
             . exact zO (lbt rfl)
             clear S;rintro h ⟨S,M⟩;clear M;simp only [LC,ae,lay,Xe,Xf,seval]at S;simp only [BZ,g,seval];refine step_ret (jC (n:=4) (a:=a6) S.ok (S.row m3) (P.mo S.fr (by omega)) (by omega) (by omega)) ?_;rintro v h ⟨f,r9,a7,rfl,b7,b8,R⟩;replace S:=S.call1 (i:=3) rfl f (o':=.row _ _) R;simp only [LC]at S;have w8:am .i64 ((k:Int)+1)=((k+1:Nat):Int):=(by rw [wrap64]<;>omega);have af:(A.flatMap cR++cR ⟨s1,s2,U⟩).length=A.length*3+3:=(by rw [Xd,K,dD]);have be: ∀x∈A++[(⟨s1,s2,U⟩:Arc)],x.s<i/\x.t<i/\x.w<=2147483647:=fun x D=>(List.mem_append.1 D).elim (O x) (fun h=>by simp at h;subst h;exact⟨bb,bc,Z⟩);by_cases hz:(r9:Int)=0
             . simp only [BZ,d,hz,S.ld (b:=r) (o:=3) m1 rfl,S.ld (b:=b9) (o:=0) m0 rfl,S.ld (b:=b9) (o:=1) m0 rfl,S.ld (b:=b9) (o:=2) m0 rfl,seval];refine ag (bD (by exact Tryz.t35.1) (by exact Tryz.e81E) (by decide) (by rfl)) S ?_;clear S;intro h W S J;simp only [LC,bA,bN,ae,Xl,Xj,Xa,Xp,seval]at S;simp only [BZ,seval];refine dq (S.grow (j:=2) (m:=1) (new:=cR ⟨s2,s1,U⟩) rfl Tryz.t35.1 Tryz.e81E (by decide) Tryz.t35.2.2.2.2.2 (by simp only [aF];rw [S.lds (b:=W) (o:=0) (n:=1*3) m0 (lbt rfl)];rfl) rfl (by decide) rfl (by rw [af,dD];omega)) ?_;clear S;rintro h bf S;simp only [LC]at S;replace S:=S.drop1;have fA:Fl bf:=(S.gown _ m2).1.fl;simp only [BZ,d,seval];refine au (aw S (i:=1) rfl ?_ ?_ ?_ ono) ?_
               . exact(by simp only [FA0])
               . exact(by assumption)
               . exact zO (lbt rfl)
               clear S;rintro h ⟨S,M⟩;clear M;simp only [LC,ae,lay,Xe,Xf,seval]at S;simp only [BZ,r8,w8,seval];replace S:=S.drop1;exact T (k+1) _ _ (by omega) ⟨by omega,a7,bf,A++[⟨s1,s2,U⟩]++[⟨s2,s1,U⟩],by omega,by simp;omega,
                fun x D=>(List.mem_append.1 D).elim (be x) (fun h=>by simp at h;subst h;exact⟨bc,bb,Z⟩),by rw [Xq,Xq];simpa using S,by simp [ao,g,ah,u,d,G]⟩
             . simp only [BZ,r8,hz,w8,seval];replace S:=S.drop1;exact T (k+1) _ _ (by omega) ⟨by omega,a7,Q,A++[⟨s1,s2,U⟩],by omega,by simp;omega,
                be,by rw [Xq];simpa using S,by simp [ao,g,ah,u,d,G]⟩
           . simp only [BZ,G,r8,aq,hlt,seval];exact cK ⟨a,s,A,by omega,O,S,by simp [ao,g,ah,u,d]⟩
         . clear S g u d G ha lA O a s A;rintro e h ⟨a,s,A,lA,O,S,g,u,d⟩;simp only [BZ,u,d,S.lds (b:=r) (o:=0) (n:=4) m0 (lbt rfl),seval];have fX:Fl C:=(S.gown _ m0).1.fl;have fY:Fl F:=(S.gown _ m1).1.fl;have fA:Fl s:=(S.gown _ m2).1.fl;refine au (stA S (i:=1) Tryz.t37.2.1 (by simp only [ae,Xe,Xf,List.all_cons,List.all_nil,fX.2.1,fY.2.1,fA.2.1,XH];rfl)) ?_;clear S;rintro h ⟨S,_⟩;simp only [LC,ae,lay,Xe,Xf,seval]at S;simp only [BZ,ab];refine⟨_,tV (by decide) (by simp only [az,u,ah,seval];exact bz Tryz.t37.1 Tryz.t37.2.1 (S.lds (b:=L) (o:=0) (n:=4) m1 (lbt rfl))),?_⟩;have ai: ∀p∈[(C,1,ints X),(F,1,ints Y),(s,3,A.flatMap cR)],∀c,aA p.1 c->I.n<=c:=by
            intro p hp c hc;obtain⟨h1,h2⟩:=S.gblk hp hc;rcases h1 with h1|h1
            . exact h1
            . exact absurd (by simp [h1]) h2
           refine⟨S.fr,⟨i,X,Y,A⟩,C,F,s,rfl,⟨show 1<=i by omega,show i<=12 by omega,lX,lY,cX,cY,lA,O⟩,show i=_ by omega,⟨(S.gown _ m0).1.sl rfl (fun _=>rfl) (by decide),(S.gown _ m1).1.sl rfl (fun _=>rfl) (by decide),(S.gown _ m2).1.sl rfl (fun _=>rfl) (by decide)⟩,?_⟩;rintro c (hc|hc|hc)
           . exact ai _ m0 c hc
           . exact ai _ m1 c hc
           . exact ai _ m2 c hc
 . exact⟨by omega,a0,_,_,[],[],by omega,rfl,rfl,by simp,by simp,S,by simp [ao,cC,ah]⟩
theorem raw_ok{e:Hp}(m:OZ e){l:Value}(n:Row e k [l,.int .i64 ((0:Nat):Int)] 1)(o:DrAt e k l xs 0):Ret zB 13 [ptrTo k] e fun v h'=>Mo (· =k) e h'/\ ∃g h i j,v=gc g h i j/\Good g/\cL h' h i j g/\ ∀c,(aA h c\/aA i c\/aA j c)->e.n<=c:=
 (raw0_ok m n o).mono fun v h' ⟨f,g,h,i,j,a,b,_,c,d⟩=>⟨f,g,h,i,j,a,b,c,d⟩
theorem aI(g:Gr h h')(a:b<h.n):leaves h h' b=true:=iG (g.get b a)
theorem own_ok{p:Hp}(R:OZ p){w:Gra}(k:jZ w){r s l:Value}(G:cL p r s l w):Ret zB 47 [gc w r s l] p fun v h'=>Gr p h'/\ ∃r s l,v=gc w r s l/\cL h' r s l w/\(∀c,aA r c\/aA s c\/aA l c->p.n<=c)/\WrK h' 3 cR l w.arcs/\ ∀c,aA l c-> ¬aA r c/\ ¬aA s c:=by
 have S:=Si R;have lX:=k.lX;have lY:=k.lY;have n2:=k.n2;have N:=k.many;refine erA (n:=16) (rs:=[.cell 2 37]) Tryz.e47 ?_;simp only [BZ,gc,seval];refine ag (bK (by intro x e;cases e)) S ?_;clear S;intro h b S T;simp only [ae]at S;simp only [BZ];refine ag ay S ?_;clear S;intro h t S O;simp only [BZ];refine av (aB rfl) (q:=0) (ps:=[(5,7),(2,7),(2,4)]) (by kernel_rfl) ?_;simp only [BZ,cls,S.ld (b:=b) (o:=1) m1 rfl,seval];refine cF (vf S.ok (G.X.gr S.gr) (by omega)) ?_;have U:=S.fr.n;rintro A h ⟨g,f,H⟩;have P:=aI g ((S.row (b:=b) m1).lt S.ok);have I: ∀c,aA A c-> ¬c=b:=fun c d e=>by have:=H c d;have:=(S.row (b:=b) m1).lt S.ok;omega
 have J: ∀c,aA A c-> ¬c=t:=fun c d e=>by have:=H c d;have:=(S.row (b:=t) m0).lt S.ok;omega
 replace S:=S.call g;simp only [BZ,cls,S.ld (b:=b) (o:=2) m1 rfl,seval];refine cF (vf S.ok (G.Y.gr S.gr) (by omega)) ?_;have V:=S.fr.n;rintro B h ⟨g,j,K⟩;have Q:=aI g ((S.row (b:=b) m1).lt S.ok);have L: ∀c,aA B c-> ¬c=b:=fun c d e=>by have:=K c d;have:=(S.row (b:=b) m1).lt S.ok;omega
 have M: ∀c,aA B c-> ¬c=t:=fun c d e=>by have:=K c d;have:=(S.row (b:=t) m0).lt S.ok;omega
 replace S:=S.call g;replace f:=f.gr g;simp only [BZ,cls,S.ld (b:=b) (o:=3) m1 rfl,seval];refine cF (Ea S.ok (G.A.gr S.gr) (by omega)) ?_;have W:=S.fr.n;rintro C h ⟨g,m,D,u⟩;have X: ∀c,aA C c-> ¬aA A c/\ ¬aA B c:=fun c d=>⟨fun h=>by have:=D c d;have:=f.lt S.ok h;omega,fun h=>by have:=D c d;have:=j.lt S.ok h;omega⟩;have e3:=aI g ((S.row (b:=b) m1).lt S.ok);have y: ∀c,aA C c-> ¬c=b:=fun c d e=>by have:=D c d;have:=(S.row (b:=b) m1).lt S.ok;omega
 have E: ∀c,aA C c-> ¬c=t:=fun c d e=>by have:=D c d;have:=(S.row (b:=t) m0).lt S.ok;omega
 replace S:=S.call g;replace f:=f.gr g;replace j:=j.gr g;have z: ∀c,aA A c\/aA B c\/aA C c->p.n<=c:=fun c d=>by
  rcases d with h|h|h
  . exact Xm U (H c h)
  . exact Xm V (K c h)
  . exact Xm W (D c h)
 have Y:=f.fl;have Z:=j.fl;have f3:=m.fl;simp only [BZ,cls,seval];refine dM (aw S (i:=1) rfl ?_ ?_ ?_ ono) ?_
 . exact(by simp only [FA0])
 . exact(by assumption)
 . exact zO (lbt rfl)
 clear S;rintro h ⟨S,a⟩;replace f:=f.mo a I;replace j:=j.mo a L;replace m:=m.mo a y;replace u:=u.mo a y;clear a;simp only [LC,ae,lay,Xe,Xf,seval]at S;simp only [BZ,cls,seval];refine dM (aw S (i:=1) rfl ?_ ?_ ?_ ono) ?_
 . exact(by simp only [FA0])
 . exact(by assumption)
 . exact zO (lbt rfl)
 clear S;rintro h ⟨S,a⟩;replace f:=f.mo a I;replace j:=j.mo a L;replace m:=m.mo a y;replace u:=u.mo a y;clear a;simp only [LC,ae,lay,Xe,Xf,seval]at S;simp only [BZ,cls,seval];refine dM (aw S (i:=1) rfl ?_ ?_ ?_ ono) ?_
 . exact(by simp only [FA0])
 . exact(by assumption)
 . exact zO (lbt rfl)
 clear S;rintro h ⟨S,a⟩;replace f:=f.mo a I;replace j:=j.mo a L;replace m:=m.mo a y;replace u:=u.mo a y;clear a;simp only [LC,ae,lay,Xe,Xf,seval]at S;simp only [BZ,seval];refine⟨by simp only [aR,aZ,aM,bo,aP,ne_eq,not_false_eq_true,bj,bH,aQ,aO,bS,cq,az,XH,ct,ah,aG P,aG Q,aG e3,aJ P,aJ Q,aJ e3,seval],?_⟩;simp only [BZ,S.lds (b:=b) (o:=0) (n:=4) m1 (lbt rfl),seval];refine au (stA S (i:=0) Tryz.t37.2.1 (by simp only [ae,Xe,Xf,List.all_cons,List.all_nil,Y.2.1,Z.2.1,f3.2.1,XH];rfl)) ?_;clear S;rintro h' ⟨S,F⟩;simp only [LC,ae,lay,Xe,Xf,seval]at S;simp only [BZ,ab];refine⟨_,tV (by decide) (by simp only [az,ah,seval];exact bz Tryz.t37.1 Tryz.t37.2.1 (S.lds (b:=t) (o:=0) (n:=4) m0 (lbt rfl))),?_⟩;exact⟨S.gr,A,B,C,rfl,⟨f.mo F J,j.mo F M,m.mo F E⟩,z,u.mo F E,X⟩
section
variable(A:List Arc)(f:Arc->Nat)
def outs(j v:Nat):List Nat:=(Xb j).filter fun i=>decide (f (A.getD i default)=v)
def start:Nat->Nat
 |0=>0|v+1=>start v+(outs A f A.length v).length
theorem jQ(j v:Nat):outs A f (j+1) v=outs A f j v++(if f (A.getD j default)=v then [j]else []):=by simp_all[outs,Yp,List.filter_append,default,List.filter_cons,List.filter_nil,decide_true,if_true]
theorem outs_pre(h:j<=k)(v:Nat): ∃l,outs A f k v=outs A f j v++l:=by
 induction k with
 |zero=>simp_all| succ k a=>
   by_cases b:j=k+1
   . simp_all
   grind[jQ,XS]
theorem An(h:j<=k)(v:Nat):(outs A f j v).length<=(outs A f k v).length:=by obtain⟨l,a⟩:=outs_pre A f h v;grind
theorem start_eq(v:Nat):start A f v=((Xb A.length).filter fun i=>decide (f (A.getD i default)<v)).length:=by
 have a: ∀(l:List Nat) (v:Nat),(l.filter fun i=>decide (f (A.getD i default)<v+1)).length=(l.filter fun i=>decide (f (A.getD i default)<v)).length+(l.filter fun i=>decide (f (A.getD i default)=v)).length:=by
  intro l v
  induction l with
  |nil=>rfl| cons x l b=>grind
 induction v with
 |zero=>rw [start];symm;simp_all|succ v b=>rw [start,b,a];rfl
theorem te(v:Nat):start A f v+(outs A f A.length v).length<=A.length:=by have:=start_eq A f (v+1);grind[start,Xm,YI]
theorem yR{v:Nat}(h:u<v):start A f u+(outs A f A.length u).length<=start A f v:=by
 induction v with
 |zero=>omega| succ v a=>rw [start];grind
theorem En{v s:Nat}(b:r<(outs A f A.length u).length)(hs:s<(outs A f A.length v).length)(h:start A f u+r=start A f v+s):u=v/\r=s:=by
 rcases Nat.lt_trichotomy u v with a|a|a
 . have:=yR A f a;omega
 . grind
 . have:=yR A f a;omega
end
def gC(x:Nat):List Value:=[.int .i64 x]
theorem jt(x:Nat):(gC x).length=1:=rfl
def iZ(h:Hp)(m:Nat)(v:Value)(N:Nat)(R:Nat->List Nat):Prop:=
 ∃a b,v=.slice (some ⟨a,0,none⟩) N N/\m<=a/\Row h a b 1/\b.length=N/\ ∀i,i<N-> ∃w,b[i]? =some w/\aH h 1 gC w (R i)/\ ∀c,aA w c->m<=c
theorem iZ.mo{M:Nat->Prop}{h h':Hp}{v:Value}{m N:Nat}{R:Nat->List Nat}(r:iZ h m v N R)(g:Mo M h h')(q: ∀b,M b->b<m):iZ h' m v N R:=by obtain⟨e,d,f,s,j,k,l⟩:=r;refine⟨e,d,f,by omega,g.has (o:=.row d 1) j (fun h=>by grind),k,fun i n=>?_⟩;obtain⟨w,a,b,c⟩:=l i n;exact⟨w,a,b.mo g fun x p t=>by grind,fun x p=>by grind⟩
theorem iZ.gr(g:Gr h h')(r:iZ h m v N R):iZ h' m v N R:=
 r.mo (M:=NoM) g.fr (fun _ h=>h.elim)
theorem iZ.low(r:iZ h m v N R)(g:a<=m):iZ h a v N R:=by
 obtain⟨b,c,d,j,e,f,k⟩:=r;exact⟨b,c,d,by omega,e,f,fun i l=>by
  grind⟩
structure cI(h:Hp)(m:Nat)(p:Value)(γ:Gra):Prop where
 ex: ∃b vx vy va vo vi,p=ptrTo b/\Row h b [.int .i64 γ.nodes,vx,vy,va,vo,vi] 1/\cL h vx vy va γ/\iZ h m vo γ.nodes (outs γ.arcs Arc.s γ.arcs.length)/\iZ h m vi γ.nodes (outs γ.arcs Arc.t γ.arcs.length)/\m<=b/\ ∀c,aA vx c\/aA vy c\/aA va c->m<=c
theorem cL.mo{M:Nat->Prop}{h h':Hp}{b d e:Value}{i:Gra}(a:cL h b d e i)(g:Mo M h h')(f: ∀c,aA b c\/aA d c\/aA e c-> ¬M c):cL h' b d e i:=
 ⟨a.X.mo g fun c h=>f c (.inl h),a.Y.mo g fun c h=>f c (.inr (.inl h)),a.A.mo g fun c h=>f c (.inr (.inr h))⟩
theorem cI.mo{M:Nat->Prop}{h h':Hp}{m:Nat}{p:Value}{a:Gra}(n:cI h m p a)(g:Mo M h h')(d: ∀b,M b->b<m):cI h' m p a:=by obtain⟨b,e,f,i,j,k,l,q,r,s,t,u,v⟩:=n.ex;exact⟨b,e,f,i,j,k,l,g.has (o:=.row _ 1) q (fun h=>by grind),r.mo g (fun c w x=>by grind),s.mo g d,t.mo g d,u,v⟩
theorem cI.gr{a:Gra}(n:cI h m p a)(g:Gr h h'):cI h' m p a:=n.mo (M:=NoM) g.fr (fun _ h=>h.elim)
theorem mV{a:Type}{F F':Nat->a}(b: ∀i,i<N->i≠k->F' i=F i):((Xb N).map F).set k (F' k)=(Xb N).map F':=by refine Xx fun i=>?_;grind
theorem qa{a:Type}{F:Nat->a}(b:k<N):((Xb N).map F)[k]? =some (F k):=by simp [b]
theorem slice_at{t e:TypeId}{len l:Nat}{a c d:IntKind}(i:E.und t=some (.slice e))(hs:E.sz e=some k)(f:l<=m)(j:m<=cap):cZ E t (.slice (some ⟨b,0,none⟩) len cap) (some (.int a (l:Int))) (some (.int c (l:Int))) (some (.int d (m:Int)))=some (.slice (some ⟨b,if m=l then 0 else l*k,none⟩) 0 (m-l)):=by
 have g: ∀n:Nat,gM (n:Int)=some n:=fun n=>rfl;simp only [cZ,i,dQ,fe,g,Xh j,Xh f,Xh (Xz l),cond_true,hs,YO,Option.map];by_cases h:m=l
 . subst h;rw [Yw];simp
 . have:X2 m l=false:=by
    cases o:X2 m l with
    |false=>rfl|true=>exact absurd (Yk o) h
   rw [this,if_neg h];simp [iR]
theorem St.fill{k:Hp}(S:St M k h L G){t m e:TypeId}{d len:Nat}{r l:List Value}{s:Option Nat}{x:Value}(n:L[i]? =some (b,.row l md))(u:E.und t=some (.slice e))(w:eP E e d 1 r)(z:fj E m=some false)(a:aF h 1 x=some (1,[v]))(A:Fl v)(H:len<cap)(B:off+len<l.length)(f:md≠0){ts:List TypeId}:
 ∃h',dP E h (t::m::ts) (.slice (some ⟨b,off,s⟩) len cap) x=some (h',.slice (some ⟨b,off,s⟩) (len+1) cap)/\St M k h' (L.set i (b,.row (l.set (off+len) v) md)) G/\Mo (· =b) h h':=by
 obtain⟨⟨I,g,rfl,c⟩,J,C⟩:=w;have D:=S.row (zM n);obtain⟨y,F,p⟩:=D.store S.ok f (o:=off+len) (vs:=[v]) (by simp;omega) (by simp [A.2.1]);have e:lay l (off+len) [v]=l.set (off+len) v:=by
  refine Xx fun j=>?_;rw [lH (by simp;omega),XZ];simp only [XK,Yb];by_cases q:off+len=j
  . subst q;rw [if_pos ⟨Xz _,by omega⟩,if_pos rfl,if_pos B];simp
  . rw [if_neg (by omega),if_neg q]
 rw [e]at p;refine⟨h.put b y,?_,S.put n p,(Mo.refl (M:=(· =b)) S.ok).put (.inr rfl) y⟩;simp only [dP,z,lC,u,g,c,a];unfold ie;rw [Xh (by omega:len+1<=cap)];simp only [cond_true,c,Xa,F]
theorem note_runq{f:Operand}{xs:Array Operand}{ts:Array TypeId}:dr ρ true (.call ⟨.value f,xs,ts⟩) h h'=none:=rfl
theorem AM:di i []=none:=rfl
theorem pair_n{x:Option Tch}:mK none x=true:=rfl
def KeyF(E:Env)(g:FuncId)(f:Arc->Nat):Prop:= ∀(h:Hp) (a:Arc),OZ h->cj E g [.agg ⟨cR a⟩] h (.int .i64 (f a))
theorem of2_key:KeyF zB 104 Arc.s:=by intro f a c;have S:=Si c;refine erA (n:=5) (rs:=[.tmp 2]) Tryz.e104 ?_;simp only [BZ,cR,seval];refine ag (bK (by intro x e;cases e)) S ?_;clear S;intro h b S d;simp only [ae]at S;simp only [BZ,ab,S.ld (b:=b) (o:=0) m0 rfl,seval];exact S.gr
theorem of3_key:KeyF zB 105 Arc.t:=by intro f a c;have S:=Si c;refine erA (n:=5) (rs:=[.tmp 2]) Tryz.e105 ?_;simp only [BZ,cR,seval];refine ag (bK (by intro x e;cases e)) S ?_;clear S;intro h b S d;simp only [ae]at S;simp only [BZ,ab,S.ld (b:=b) (o:=1) m0 rfl,seval];exact S.gr
theorem sk(A:List Arc)(f:Arc->Nat)(j v:Nat):(outs A f j v).length<=j:=by unfold outs;exact Xm (YI _ _) (by simp)
theorem Aj(z:Value)(N:Nat):bA [z] ((N:Int)).toNat=(Xb N).map fun _=>z:=by
 rw [Yi];have: ∀n,bA [z] n=XV n z:=by
  intro n
  induction n with
  |zero=>rfl|succ n a=>simp [bA,a,YM]
 rw [this,Ya,List.length_range]
def pH(A:List Arc)(f:Arc->Nat)(i v:Nat):Value:=.int .i64 ((outs A f i v).length:Nat)
def jr(A:List Arc)(f:Arc->Nat)(b v n:Nat):Value:=.slice (some ⟨b,if(outs A f A.length v).length=0 then 0 else start A f v,none⟩) n (outs A f A.length v).length
theorem cnt_set{A:List Arc}{f:Arc->Nat}(c:i<A.length):((Xb N).map (pH A f i)).set (f A[i]) (.int .i64 (((outs A f i (f A[i])).length+1:Nat):Int))=(Xb N).map (pH A f (i+1)):=by
 have b:A.getD i default=A[i]:=by simp [Xg,c]
 have e:(.int .i64 (((outs A f i (f A[i])).length+1:Nat):Int):Value)=pH A f (i+1) (f A[i]):=by unfold pH;rw [jQ,b,if_pos rfl,Xd];rfl
 rw [e];refine mV fun v d a=>?_;unfold pH;rw [jQ,b,if_neg (fun e=>a e.symm),Xv]
def yE(A:List Arc)(f:Arc->Nat)(N i:Nat)(cs:List Value):Prop:=
 cs.length=A.length/\ ∀v r x,v<N->(outs A f i v)[r]? =some x->cs[start A f v+r]? =some (.int .i64 (x:Nat))
theorem fill_zero{A:List Arc}{f:Arc->Nat}:yE A f N 0 ((Xb A.length).map fun _=>.int .i64 0):=
 ⟨by simp,fun v r x _ h=>by simp [outs]at h⟩
theorem fill_step{A:List Arc}{f:Arc->Nat}(h:yE A f N i cs)(k:i<A.length):yE A f N (i+1) (cs.set (start A f (f A[i])+(outs A f i (f A[i])).length) (.int .i64 (i:Nat))):=by
 have c:A.getD i default=A[i]:=by simp [Xg,k]
 have g:(outs A f (i+1) (f A[i])).length<=(outs A f A.length (f A[i])).length:=An A f (by omega) _;rw [jQ,c,if_pos rfl,Xd]at g;have hlt:(outs A f i (f A[i])).length<(outs A f A.length (f A[i])).length:=by simp at g;omega
 have l:=te A f (f A[i]);refine⟨by rw [XL];exact h.1,fun v r x m a=>?_⟩;have n:r<(outs A f (i+1) v).length:=(List.getElem?_eq_some_iff.1 a).1;have d:r<(outs A f A.length v).length:=Ys n (An A f (by omega) v);rw [XZ];by_cases e:start A f (f A[i])+(outs A f i (f A[i])).length=start A f v+r
 . obtain⟨b,o⟩:=En A f hlt d e;subst b;rw [if_pos e,if_pos (by rw [h.1];omega)];rw [jQ,c,if_pos rfl,X6,if_neg (by omega),o,YO]at a;simp at a;rw [a]
 . rw [if_neg e];refine h.2 v r x m ?_;rw [jQ,c]at a;by_cases b:f A[i]=v
   . rw [if_pos b,X6]at a;subst b;by_cases j:r<(outs A f i (f A[i])).length
     . rw [if_pos j]at a;exact a
     . rw [if_neg j]at a;have:=(List.getElem?_eq_some_iff.1 a).1;simp at this;exact absurd (by omega) e
   . rw [if_neg b,Xv]at a;exact a
theorem of1_ok{t:Hp}(ok:OZ t){y:Gra}(K:jZ y){L:Value}(hb:Row t b [.int .i64 y.nodes,vx,vy,L] 1)(ga:cL t vx vy L y){g:FuncId}{f:Arc->Nat}(hk:KeyF zB g f)(hf: ∀a∈y.arcs,f a<y.nodes):Ret zB 103 [.func (.func g) #[] #[],ptrTo b] t fun v h'=>Gr t h'/\iZ h' t.n v y.nodes (outs y.arcs f y.arcs.length):=by
 have S:=Si ok;have n2:=K.n2;have M:=K.many;obtain⟨N,X,Y,A⟩:=y;simp only []at hb n2 M hf;have O:aH t 3 cR L A:=ga.A;have l0:=hb.load1 (o:=0) rfl;have l3:=hb.load1 (o:=3) rfl;refine erA (n:=85) (rs:=[.tmp 3]) Tryz.e103 ?_;simp only [BZ,l0,seval];refine ag (kY (by exact Tryz.t38.1) (by exact Tryz.e3E) (by omega) (by omega)) S ?_;clear S;intro h C S ai;rw [Aj]at S;replace S:St NoM t h [(C,.row ((Xb N).map (pH A f 0)) 1)] []:=S;simp only [BZ,S.old l3 (fun h=>h),O.lenq,Yi,seval];refine aD (fun(i:Nat) m h=>i<=A.length/\St NoM t h [(C,.row ((Xb N).map (pH A f i)) 1)] []/\m 0=.func (.func g) #[] #[]/\m 1=ptrTo b/\m 4=.slice (some ⟨C,0,none⟩) N N/\m 18=L/\m 19=.int .i64 A.length/\m 20=.int .i64 i) (fun i=>A.length-i) ?_ 0 _ _ ?_
 . clear S;intro i Q m h ⟨hi,S,r0,r1,r4,r18,r19,r20⟩;by_cases hlt:i<A.length
   . obtain⟨c,o,u,D⟩:=(O.gr S.gr).ix (kd:=.i64) dD hlt;have p:f A[i]<N:=hf _ (XJ hlt);have a1:=sk A f i (f A[i]);have w:am .i64 ((i:Int)+1)=((i+1:Nat):Int):=(by rw [wrap64]<;>omega);have Z:am .i64 (((outs A f i (f A[i])).length:Int)+1)=(((outs A f i (f A[i])).length+1:Nat):Int):=(by rw [wrap64]<;>omega);simp only [BZ,r18,r19,r20,aq,hlt,u,D,seval];refine ag ay S ?_;clear S;intro h b6 S ak;simp only [BZ,cR,seval];refine au (stA S (i:=0) Tryz.t81.2.1) ?_;clear S;rintro h ⟨S,z⟩;clear z;simp only [LC,ae,lay,Xe,Xf,seval]at S;simp only [BZ,r0,r4,S.lds (b:=b6) (o:=0) (n:=3) m0 (lbt rfl),seval];refine ar (hk _ A[i] S.ok) ?_;intro h g;replace S:=S.call g;have E:=S.ld (b:=C) (o:=f A[i]) m1 (qa (F:=pH A f i) p);unfold pH at E;simp only [BZ,p,E,Z,seval];refine au (aw S (i:=1) rfl Tryz.t3.2.2.1 cE (by simpa using p) ono) ?_;clear S E;rintro h ⟨S,z⟩;clear z;simp only [LC]at S;rw [cnt_set hlt]at S;replace S:=S.drop1;simp only [BZ,r20,w,seval];exact Q (i+1) _ _ (by omega) ⟨by omega,S,by simp [ao,r0,r1,ah,r4,r18,r19]⟩
   . have G : i=A.length:=(by omega);subst G;simp only [BZ,r19,r20,aq,hlt,seval];refine av (aB rfl) (q:=72) (ps:=[]) (by kernel_rfl) ?_;simp only [BZ,cls,r1,S.old l3 (fun h=>h),O.lenq,seval];refine dR (kY (by exact Tryz.t38.1) (by exact Tryz.e3E) (by omega) (by omega)) S ?_;clear S;intro h d S R al;rw [Aj]at S;simp only [BZ,cls,r1,S.old l0 (fun h=>h),Yi,seval];refine dR (kY (by exact Tryz.t140.1) (by exact Tryz.e38E) (by omega) (by omega)) S ?_;clear S;intro h I S T an;rw [Aj]at S;simp only [BZ,cls,r4,Yi,seval];have e0:(Xb N).map (fun v=>if v<0 then jr A f d v 0 else .slice none 0 0)=(Xb N).map (fun _=>(.slice none 0 0:Value)):=(by simp);rw [<-e0]at S;refine aD (fun(j:Nat) m h=>j<=N/\St NoM t h [(I,.row ((Xb N).map fun v=>if v<j then jr A f d v 0 else .slice none 0 0) 1),(d,.row ((Xb A.length).map fun _=>.int .i64 0) 1),(C,.row ((Xb N).map (pH A f A.length)) 1)] []/\
      m 0=.func (.func g) #[] #[]/\m 1=ptrTo b/\m 7=.slice (some ⟨d,0,none⟩) A.length A.length/\m 8=.slice (some ⟨I,0,none⟩) N N/\m 9=.int .i64 (start A f j)/\m 40=.slice (some ⟨C,0,none⟩) N N/\m 41=.int .i64 N/\m 42=.int .i64 j) (fun j=>N-j) ?_ 0 _ _ ?_
     . clear S r0 r1 r4 r18 r19 r20;intro j Q m h ⟨hj,S,r0,r1,r7,r8,r9,r40,r41,r42⟩;by_cases B:j<N
       . have E:=S.ld (b:=C) (o:=j) m2 (qa (F:=pH A f A.length) B);unfold pH at E;have aa:=te A f j;have w:am .i64 ((j:Int)+1)=((j+1:Nat):Int):=(by rw [wrap64]<;>omega);have Z:am .i64 ((start A f j:Int)+((outs A f A.length j).length:Nat))=((start A f j+(outs A f A.length j).length:Nat):Int):=(by rw [wrap64]<;>omega);have sl:cZ zB 38 (.slice (some ⟨d,0,none⟩) A.length A.length) (some (.int .i64 (start A f j))) (some (.int .i64 (start A f j))) (some (.int .i64 ((start A f j+(outs A f A.length j).length:Nat):Int)))=some (jr A f d j 0):=by
          rw [slice_at Tryz.t38.1 Tryz.t3.2.2.1 (by omega) (by omega)];unfold jr;rw [YD,Xa];by_cases H:(outs A f A.length j).length=0
          . rw [if_pos (by omega),if_pos H]
          . rw [if_neg (by omega),if_neg H]
         have fr:Fl (jr A f d j 0):=bW;simp only [BZ,XA,r7,r8,r9,r40,r41,r42,aq,B,E,Z,sl,seval];refine au (aw S (i:=0) rfl Tryz.t38.2.2.1 fr (by simpa using B) ono) ?_;clear S E;rintro h ⟨S,z⟩;clear z;simp only [LC]at S;rw [show((Xb N).map fun v=>if v<j then jr A f d v 0 else .slice none 0 0).set j (jr A f d j 0)=(Xb N).map fun v=>if v<j+1 then jr A f d v 0 else .slice none 0 0 from by
          have:=mV (N:=N) (k:=j) (F:=fun v=>if v<j then jr A f d v 0 else .slice none 0 0) (F':=fun v=>if v<j+1 then jr A f d v 0 else .slice none 0 0) (fun v J U=>by
           show ite _ _ _=ite _ _ _;by_cases h1:v<j
           . rw [if_pos h1,if_pos (by omega)]
           . rw [if_neg h1,if_neg (by omega)])
          simp only [if_pos (show j<j+1 by omega)]at this;exact this]at S
         simp only [BZ,r9,r42,w,Z,seval];exact Q (j+1) _ _ (by omega) ⟨by omega,S,by simp [ao,r0,r1,ah,r7,r8,start,r40,r41]⟩
       . have ac:j=N:=(by omega);subst ac;simp only [BZ,r1,r41,r42,aq,B,S.old l3 (fun h=>h),O.lenq,seval];have e1:((Xb j).map fun v=>if v<j then jr A f d v 0 else .slice none 0 0)=(Xb j).map fun v=>jr A f d v (outs A f 0 v).length:=(by refine List.map_congr_left fun v J=>?_;rw [if_pos (List.mem_range.1 J)];rfl);rw [e1]at S;refine aD (fun(i:Nat) m h=>i<=A.length/\(∃cs,yE A f j i cs/\St NoM t h [(I,.row ((Xb j).map fun v=>jr A f d v (outs A f i v).length) 1),(d,.row cs 1),(C,.row ((Xb j).map (pH A f A.length)) 1)] [])/\
          m 0=.func (.func g) #[] #[]/\m 1=ptrTo b/\m 8=.slice (some ⟨I,0,none⟩) j j/\m 62=L/\m 63=.int .i64 A.length/\m 64=.int .i64 i) (fun i=>A.length-i) ?_ 0 _ _ ?_
         . clear S r0 r1 r7 r8 r9 r40 r41 r42;intro i Q m h ⟨hi,⟨cs,hcs,S⟩,r0,r1,r8,r62,r63,r64⟩;by_cases hlt:i<A.length
           . obtain⟨c,o,u,D⟩:=(O.gr S.gr).ix (kd:=.i64) dD hlt;have p:f A[i]<j:=hf _ (XJ hlt);have w:am .i64 ((i:Int)+1)=((i+1:Nat):Int):=(by rw [wrap64]<;>omega);simp only [BZ,r62,r63,r64,aq,hlt,u,D,seval];refine ag ay S ?_;clear S;intro h V S ad;simp only [BZ,cR,seval];refine au (stA S (i:=0) Tryz.t81.2.1) ?_;clear S;rintro h ⟨S,z⟩;clear z;simp only [LC,ae,lay,Xe,Xf,seval]at S;simp only [BZ];refine av (aB rfl) (q:=2184) (ps:=[(3,6)]) (by kernel_rfl) ?_;simp only [BZ,cls,r0,r8,S.lds (b:=V) (o:=0) (n:=3) m0 (lbt rfl),seval];refine dq_pure (hk _ A[i] S.ok) ?_;intro h W;replace S:=S.call W;clear W;simp only [BZ,cls,r0,r8,S.lds (b:=V) (o:=0) (n:=3) m0 (lbt rfl),seval];refine dq_pure (hk _ A[i] S.ok) ?_;intro h W;replace S:=S.call W;clear W;have hd:A.getD i default=A[i]:=(by simp [Xg,hlt]);have hl:(outs A f (i+1) (f A[i])).length<=(outs A f A.length (f A[i])).length:=An A f (by omega) _;rw [jQ,hd,if_pos rfl,Xd,Yl]at hl;have aa:=te A f (f A[i]);have hK:(outs A f A.length (f A[i])).length≠0:=(by omega);have lr:=S.ld (b:=I) (o:=f A[i]) m1 (qa (F:=fun v=>jr A f d v (outs A f i v).length) p);simp only [jr,if_neg hK]at lr;simp only [BZ,cls,p,lr,seval];refine dR (bD (by exact Tryz.t38.1) (by exact Tryz.e3E) (by decide) (by rfl)) S ?_;clear S;intro h bs S aL a0;simp only [LC,bA,bN,ae,Xl,Xj,Xa,Xp,seval]at S;simp only [BZ,cls,seval];obtain⟨h2,e2,S2,af⟩:=S.fill (i:=3) (x:=.slice (some ⟨bs,0,none⟩) 1 1) (v:=.int .i64 (i:Nat)) (off:=start A f (f A[i])) (len:=(outs A f i (f A[i])).length) (cap:=(outs A f A.length (f A[i])).length) (s:=none) rfl Tryz.t38.1 Tryz.e3E Tryz.t38.2.2.2.2.2
              (by simp only [aF];rw [S.lds (b:=bs) (o:=0) (n:=1*1) m0 (lbt rfl)];rfl) cE (by omega) (by have:=hcs.1;omega) ono (ts:=[])
             refine jo (P:=fun h' v=>h'=h2/\v=.slice (some ⟨d,start A f (f A[i]),none⟩) ((outs A f i (f A[i])).length+1) (outs A f A.length (f A[i])).length) ⟨_,_,e2,rfl,rfl⟩ ?_;rintro h v ⟨rfl,rfl⟩;clear S e2 af;have S:=S2;clear S2;simp only [LC]at S;simp only [BZ,cls,p,seval];refine dM (aw S (i:=2) rfl Tryz.t38.2.2.1 bW (by simpa using p) ono) ?_;clear S;rintro h ⟨S,z⟩;clear z;simp only [LC]at S;have e3:((Xb j).map fun v=>jr A f d v (outs A f i v).length).set (f A[i]) (.slice (some ⟨d,start A f (f A[i]),none⟩) ((outs A f i (f A[i])).length+1) (outs A f A.length (f A[i])).length)=(Xb j).map fun v=>jr A f d v (outs A f (i+1) v).length:=by
              have:=mV (N:=j) (k:=f A[i]) (F:=fun v=>jr A f d v (outs A f i v).length) (F':=fun v=>jr A f d v (outs A f (i+1) v).length) (fun v J U=>by
               show jr _ _ _ _ _=jr _ _ _ _ _;rw [jQ,hd,if_neg (fun e=>U e.symm),Xv])
              rw [<-this];congr 1;show _=jr _ _ _ _ _;rw [jQ,hd,if_pos rfl,Xd];unfold jr;rw [if_neg hK];rfl
             rw [e3]at S;replace S:=S.drop1.drop1;simp only [BZ,r64,w,seval];refine⟨by simp only [aR,aZ,aM,bo,aP,ne_eq,not_false_eq_true,bj,bH,aQ,aO,bS,cq,az,XH,r0,r1,r8,ah,note_runq,kQ,AM,pair_n,seval],?_⟩;exact Q (i+1) _ _ (by omega) ⟨by omega,⟨_,fill_step hcs hlt,S⟩,by simp [ao,r0,r1,ah,r8,r62,r63]⟩
           . have G:i=A.length:=(by omega);subst G;simp only [BZ,ab,r8,r63,r64,aq,hlt,seval];refine⟨S.gr,I,_,rfl,T,S.row m0,by simp,fun v J=>⟨_,qa J,.inr ⟨d,_,none,_,rfl,Xz _,?_⟩,fun c (hc:d=c)=>hc▸R⟩⟩;have hR:=S.row (b:=d) (l:=cs) (md:=1) m1;have ht:=te A f v;have hl:=hcs.1;rw [Xa];by_cases H:(outs A f A.length v).length=0
             . rw [if_pos H,H,hR.load (by omega)];rw [List.length_eq_zero_iff.1 H];rfl
             . rw [if_neg H,hR.load (by omega)];congr 1;refine Xx fun r=>?_;have e4:(outs A f A.length v).flatMap gC=(outs A f A.length v).map fun x=>.int .i64 (x:Nat):=(by rw [X3,YN,X3];rfl);rw [e4,Xw,List.getElem?_take,List.getElem?_drop];by_cases hr:r<(outs A f A.length v).length
               . rw [if_pos hr,hcs.2 v r _ J (Xo hr),Xo hr];rfl
               . rw [if_neg hr,Ym (by omega)];rfl
         . exact⟨Xr _,⟨_,fill_zero,S⟩,by simp [ao,r0,r1,ah,r8]⟩
     . exact⟨Xr _,S,by simp [ao,r0,r1,ah,start,r4]⟩
 . exact⟨Xr _,S,by simp [ao,ct,cP,ah]⟩
theorem of_ok{k:Hp}(F:OZ k){r:Gra}(d:jZ r){s t u:Value}(w:cL k s t u r)(y:m<=k.n)(G: ∀c,aA s c\/aA t c\/aA u c->m<=c):Ret zB 46 [gc r s t u] k fun v h'=>Gr k h'/\cI h' m v r:=by
 have S:=Si F;refine erA (n:=20) (rs:=[.tmp 2]) Tryz.e46 ?_;simp only [BZ,gc,seval];refine ag (bK (by intro x e;cases e)) S ?_;clear S;intro h b S H;simp only [ae]at S;simp only [BZ,Xy,XC,XF,S.lds (b:=b) (o:=0) (n:=4) m0 (lbt rfl),seval];refine ag (bK (by intro x e;cases e)) S ?_;clear S;intro h p S q;simp only [ae]at S;simp only [BZ,seval];have I:=S.fr.n;have z:=(S.row (b:=p) m0).lt S.ok;refine step_ret (of1_ok S.ok d (S.row m1) (w.gr S.gr) of2_key (fun a A=>(d.arcs a A).1)) ?_;intro C h ⟨g,f⟩;replace S:=S.call g;simp only [BZ,seval];have J:=S.fr.n;have B:=(S.row (b:=p) m0).lt S.ok;refine step_ret (of1_ok S.ok d (S.row m1) (w.gr S.gr) of3_key (fun a A=>(d.arcs a A).2.1)) ?_;intro v h ⟨g,l⟩;replace S:=S.call g;replace f:=f.gr g;clear g;have K:Fl v:=by obtain⟨_,_,rfl,_⟩:=l;exact bW
 have L:Fl C:=by obtain⟨_,_,rfl,_⟩:=f;exact bW
 simp only [BZ,seval];have D: ∀c,c=p->c<_:=fun c e=>e▸z;have E: ∀c,c=p->c<_:=fun c e=>e▸B;refine au (aw S (i:=0) rfl ?_ ?_ ?_ ono) ?_
 . exact(by simp only [FA0])
 . exact(by assumption)
 . exact zO (lbt rfl)
 clear S;rintro h ⟨S,j⟩;replace f:=f.mo j D;replace l:=l.mo j E;clear j;simp only [LC,ae,lay,Xe,Xf,seval]at S;simp only [BZ,seval];refine au (aw S (i:=0) rfl ?_ ?_ ?_ ono) ?_
 . exact(by simp only [FA0])
 . exact(by assumption)
 . exact zO (lbt rfl)
 clear S;rintro h ⟨S,j⟩;replace f:=f.mo j D;replace l:=l.mo j E;clear j;simp only [LC,ae,lay,Xe,Xf,seval]at S;simp only [BZ,ab,seval];exact⟨S.gr,p,s,t,u,C,v,rfl,S.row m0,w.gr S.gr,f.low (Xm y I),l.low (Xm y J),Xm y q,G⟩
theorem AI{a:Hp}(p:OZ a){f:Gra}(d:jZ f){i j k:Value}(l:cL a i j k f):Ret zB 14 [gc f i j k] a fun r h'=> ∃v,r=.tuple #[v,.nilIface]/\Gr a h'/\cI h' a.n v f:=by
 have S:=Si p;refine erA (n:=17) (rs:=[.tmp 2,.tmp 3]) Tryz.e14 ?_;simp only [BZ,gc,seval];refine ag (bK (by intro x e;cases e)) S ?_;clear S;intro h b S q;simp only [ae]at S;simp only [BZ,Xy,XC,XF,S.lds (b:=b) (o:=0) (n:=4) m0 (lbt rfl),seval];refine ar (check_ok S.ok d (l.gr S.gr)) ?_;intro h g;replace S:=S.call g;simp only [BZ,Xy,XC,XF,S.lds (b:=b) (o:=0) (n:=4) m0 (lbt rfl),seval];have s:=S.fr.n;refine step_ret (own_ok S.ok d (l.gr S.gr)) ?_;intro v h ⟨g,vx',vy',va',t,ga',hz,_⟩;replace S:=S.call g;subst t;simp only [BZ,seval];refine step_ret (of_ok S.ok d ga' (m:=a.n) S.fr.n (fun c u=>Xm s (hz c u))) ?_;intro v h ⟨g,R⟩;replace S:=S.call g;simp only [BZ,ab,seval];exact⟨_,rfl,S.gr,R⟩
def pos:List Int->Int->Option Nat
 | [],_=>none|y::a,x=>if x=y then some 0 else(pos a x).map (· +1)
def kW:Nat->List Int->List (Value×Value×Nat)
 |_,[]=>[]|o,x::a=>(.int .i64 x,.int .i64 (o:Nat),o)::kW (o+1) a
theorem ents_app(o:Nat)(l:List Int)(x:Int):kW o (l++[x])=kW o l++[(.int .i64 x,.int .i64 ((o+l.length:Nat):Int),o+l.length)]:=by
 induction l generalizing o with
 |nil=>rfl| cons y a b=>show _::kW (o+1) (a++[x])=_::(kW (o+1) a++_);rw [b,XK,show o+1+a.length=o+(a.length+1) by omega]
theorem ents_len(o:Nat)(l:List Int):(kW o l).length=l.length:=by
 induction l generalizing o with
 |nil=>rfl|cons y a b=>show(kW (o+1) a).length+1=_;rw [b];rfl
theorem keq_int{y:Int}:dL (.int .i64 x) (.int .i64 y)=some (decide (x=y)):=by show some (iW x y)=_;congr 1;rw [oG]
theorem y6(o:Nat)(l:List Int)(x:Int):dA (.int .i64 x) (kW o l)=some ((pos l x).map fun i=>(.int .i64 ((o+i:Nat):Int),o+i)):=by
 induction l generalizing o with
 |nil=>rfl| cons y a b=>
   show(match dL (.int .i64 x) (.int .i64 y)with|none=>none|some true=>some (some (Value.int .i64 (o:Nat),o))|some false=>dA (.int .i64 x) (kW (o+1) a))=_;rw [keq_int,pos];by_cases h:x=y
   . rw [if_pos h,decide_eq_true h];rfl
   . rw [if_neg h,decide_eq_false h];show dA (.int .i64 x) (kW (o+1) a)=_;rw [b];cases pos a x with
     |none=>rfl|some i=>simp;omega
theorem St.mput(S:St M d h L G){t kt el:TypeId}{c:Nat}{a:List (Value×Value×Nat)}{k:Value}(e:L[i]? =some (b,.map a c))(g:E.und t=some (.map kt el))(hf:cG E kt k=true)(j:dA k a=some none):
 ∃h',ki E h t (.map (some b)) k v=some h'/\St M d h' (L.set i (b,.map (a++[(k,v,c)]) (c+1))) G:=by
 have f:h.get b=some (.map a c):=(S.own _ (zM e)).2;refine⟨h.put b (.map (a++[(k,v,c)]) (c+1)),?_,S.put e ?_⟩
 . simp only [ki,mq,g,hf,cond_true,f,j]
 . show(h.put b _).get b=_;rw [Hp.get_put,if_pos ⟨rfl,by rw [f];rfl⟩]
theorem DU{t kt el:TypeId}{c:Nat}{l:List Int}(a:E.und t=some (.map kt el))(d:E.und kt=some (.int .i64))(e:E.zeroV el=some (.int .i64 0))(f:h.get b=some (.map (kW 0 l) c)):fi E h t (.map (some b)) (.int .i64 x) true=some (match pos l x with|some i=>.tuple #[.int .i64 (i:Nat),.bool true]|none=>.tuple #[.int .i64 0,.bool false]):=by
 have hf:cG E kt (.int .i64 x)=true:=by simp only [cG,d];rfl
 simp only [fi,a,hf,cond_true,f,y6,e];cases pos l x with
 |none=>rfl|some i=>simp
def nZ(ks:List Int)(x:Int):Nat:=match pos ks x with|some i=>i|none=>ks.length
def pa(ks:List Int)(x:Int):List Int:=match pos ks x with|some _=>ks|none=>ks++[x]
def norm:List Int->List Int->List Int
 |_,[]=>[]|a,x::b=>(nZ a x:Int)::norm (pa a x) b
theorem name_ok{a:Hp}(k:OZ a){f:Nat}(l:Row a f [.map (some b)] 1)(c:a.get b=some (.map (kW 0 ks) ks.length)):Ret zB 181 [.int .i64 x,ptrTo f] a fun v h'=>Mo (· =b) a h'/\v=.int .i64 (nZ ks x)/\h'.get b=some (.map (kW 0 (pa ks x)) (pa ks x).length):=by
 have S:=St.init1 k (o:=.map (kW 0 ks) ks.length) c;have g:=l.load1 (o:=0) rfl;have d:=DU (x:=x) Tryz.t187.1 Tryz.t3.1 (by kernel_rfl) c;have j:oX (some (.map 3 3)) a (.map (some b))=some (.val (.int .i64 (kW 0 ks).length),a):=lenq_map c;rw [ents_len]at j;unfold nZ pa;cases e:pos ks x with
 | some i=>rw [e]at d;refine erA (n:=20) (rs:=[.tmp 3]) Tryz.e181 ?_;simp only [BZ,ab,g,d,seval];exact⟨S.fr,c⟩| none=>rw [e]at d;refine erA (n:=20) (rs:=[.tmp 3]) Tryz.e181 ?_;simp only [BZ,g,d,j,seval];refine au (S.mput (i:=0) rfl Tryz.t187.1 (by simp only [cG,Tryz.t3.1];rfl) (by rw [y6,e];rfl)) ?_;clear S;intro h S;simp only [LC]at S;simp only [BZ,ab,seval];have m:h.get b=some (.map (kW 0 ks++[(.int .i64 x,.int .i64 ks.length,ks.length)]) (ks.length+1)):=(S.own _ m0).2;refine⟨S.fr,?_⟩;rw [ents_app,Xd,Xj];exact m
theorem namer_ok{a:Hp}(f:OZ a):Ret zB 120 [] a fun v h'=>Gr a h'/\ ∃b c,v=.func (.func 181) #[] #[ptrTo b]/\a.n<=b/\a.n<=c/\Row h' b [.map (some c)] 1/\h'.get c=some (.map [] 0):=by
 have S:=Si f;refine erA (n:=4) (rs:=[.tmp 0]) Tryz.e120 ?_;simp only [BZ];refine ag xj S ?_;clear S;intro h c S d;simp only [BZ];refine ag ay S ?_;clear S;intro h b S e;simp only [BZ,seval];refine au (aw S (i:=0) rfl ?_ ?_ ?_ ono) ?_
 . exact(by simp only [FA0])
 . exact(by exact fl_map)
 . exact zO (lbt rfl)
 clear S;rintro h ⟨S,g⟩;clear g;simp only [LC,ae,lay,Xe,Xf,seval]at S;simp only [BZ,ab,seval];exact⟨S.gr,b,c,rfl,e,d,S.row m0,(S.own _ m1).2⟩
theorem each_ok(I:OZ d){g:Nat}{l:List Int}(F:Row d y [.map (some g)] 1)(z:d.get g=some (.map (kW 0 ks) ks.length))(A:aH d 1 (encI .i64) v l)(N:l.length<1000):Ret zB 119 [v,.func (.func 181) #[] #[ptrTo y]] d fun r h'=>Mo (· =g) d h'/\aH h' 1 (encI .i64) r (norm ks l)/\ ∀c,aA r c->d.n<=c:=by
 have S:=St.init1 I (o:=.map (kW 0 ks) ks.length) z;have B: ∀c,aA v c-> ¬c=g:=by
  rintro c q rfl;rcases A with⟨rfl,_⟩|⟨b,o,s,O,rfl,_,J⟩
  . exact q.elim
  . have:b=c:=q;subst this;simp [Hp.load,z]at J
 have C: ¬y=g:=by rintro rfl;obtain⟨t,P,e,_⟩:=F;rw [z]at e;cases e
 refine erA (n:=21) (rs:=[.tmp 4]) Tryz.e119 ?_;simp only [BZ,A.lenq,seval];replace S:=S.nilG (k:=1);refine aD (fun(i:Nat) p h=>i<=l.length/\ ∃(a done:List Int) (D:Value),norm ks l=done++norm a (l.drop i)/\done.length=i/\St (· =g) d h [(g,.map (kW 0 a) a.length)] [(D,1,ints done)]/\
  p 1=.func (.func 181) #[] #[ptrTo y]/\p 4=D/\p 7=v/\p 8=.int .i64 l.length/\p 9=.int .i64 i) (fun i=>l.length-i) ?_ 0 _ _ ?_
 . clear S;intro i K p h ⟨hi,a,done,D,hn,hd,S,r1,r4,r7,r8,r9⟩;by_cases hlt:i<l.length
   . obtain⟨c,o,u,x⟩:=(A.mo S.fr B).ix (kd:=.i64) (aE .i64) hlt;have w:am .i64 ((i:Int)+1)=((i+1:Nat):Int):=(by rw [wrap64]<;>omega);simp only [BZ,r1,r4,r7,r8,r9,aq,hlt,u,x,encI,seval];refine step_ret (name_ok S.ok (S.fr.has (o:=.row _ 1) F C) (S.own _ m0).2) ?_;rintro r h ⟨f,rfl,G⟩;replace S:=S.call1 (i:=0) rfl f (o':=.map _ _) G;simp only [LC]at S;simp only [BZ,seval];refine ag (bD (by exact Tryz.t38.1) (by exact Tryz.e3E) (by decide) (by rfl)) S ?_;clear S;intro h L S H;simp only [LC,bA,bN,ae,Xl,Xj,Xa,Xp,seval]at S;simp only [BZ,seval];refine dq (S.grow (j:=0) (m:=1) (new:=ints [(nZ a l[i]:Int)]) rfl Tryz.t38.1 Tryz.e3E (by decide) Tryz.t38.2.2.2.2.2 (by simp only [aF];rw [S.lds (b:=L) (o:=0) (n:=1*1) m0 (lbt rfl)];rfl) rfl (by decide) rfl (by rw [bR,bR];simp;omega)) ?_;clear S f G x;rintro h M S;simp only [LC]at S;replace S:=S.drop1;rw [<-fk]at S;simp only [BZ,r9,w,seval];refine K (i+1) _ _ (by omega) ⟨by omega,_,_,_,?_,?_,S,by simp [ao,r1,ah,r7,r8]⟩
     . rw [hn,Yc hlt,norm,XS];rfl
     . simp [hd]
   . have E:i=l.length:=(by omega);simp only [BZ,ab,r4,r8,r9,aq,hlt,seval];have e:norm ks l=done:=(by rw [hn,E,List.drop_length,norm,Xv]);rw [e];exact⟨S.fr,(S.gown _ m0).1.sl rfl (aE .i64) (by decide),fun c q=>((S.gblk m0 q).1).elim (fun h=>h) (fun h=>((S.gblk m0 q).2 (by simp [h])).elim)⟩
 . exact⟨Xr _,ks,[],_,rfl,rfl,S,by simp [ao,ct,cP,ah]⟩
structure Hd where
 id:Nat
 key:Int
deriving Inhabited,DecidableEq
variable{l:List Hd}
def hle(a b:Hd):Prop:=a.key<b.key\/(a.key=b.key/\a.id<=b.id)
def hlt(a b:Hd):Prop:=a.key<b.key\/(a.key=b.key/\a.id<b.id)
instance (a b:Hd):Decidable (hlt a b):=by unfold hlt;infer_instance
theorem yH{a b:Hd}(h: ¬hlt a b):hle b a:=by unfold hlt at h;unfold hle;omega
theorem vJ{a b:Hd}(h:hlt a b):hle a b:=by unfold hlt at h;unfold hle;omega
theorem mY{a b c:Hd}(h:hle a b)(k:hle b c):hle a c:=by unfold hle at*;omega
theorem yu(a:Hd):hle a a:=by unfold hle;omega
def sw(l:List Hd)(i k:Nat):List Hd:=(l.set i (l.getD k default)).set k (l.getD i default)
theorem jv(l:List Hd)(i k:Nat):(sw l i k).length=l.length:=by simp [sw]
theorem rY(l:List Hd)(i j:Nat)(x:Hd):(l.set i x).getD j default=if i=j/\j<l.length then x else l.getD j default:=by grind
theorem j9(l:List Hd)(a:i<l.length)(b:k<l.length)(j:Nat):(sw l i k).getD j default=if j=k then l.getD i default else if j=i then l.getD k default else l.getD j default:=by unfold sw;grind
theorem xd(l:List Hd)(a:i<l.length)(b:k<l.length):(sw l i k).Perm l:=by grind[set,List.set_set_perm,sw,default]
def oY(l:List Hd):Prop:= ∀j,0<j->j<l.length->hle (l.getD ((j-1)/4) default) (l.getD j default)
def uN(l:List Hd)(i:Nat):Prop:=(∀j,0<j->j<l.length->j≠i->hle (l.getD ((j-1)/4) default) (l.getD j default))/\ ∀j,0<j->j<l.length->(j-1)/4=i->0<i->hle (l.getD ((i-1)/4) default) (l.getD j default)
theorem up_done(h:uN l i)(c:i=0\/hle (l.getD ((i-1)/4) default) (l.getD i default)):oY l:=by
 intro j a b;by_cases e:j=i
 . grind
 . exact h.1 j a b e
theorem up_step(e:i<l.length)(h:uN l i)(n:0<i)(k:hlt (l.getD i default) (l.getD ((i-1)/4) default)):uN (sw l i ((i-1)/4)) ((i-1)/4):=by
 have c:(i-1)/4<l.length:=by omega
 generalize f:(i-1)/4=p at*
 have s:p<i:=by omega
 refine⟨fun j d a m=>?_,fun j d a m o=>?_⟩
 . rw [jv]at a;rw [j9 l e c,j9 l e c,if_neg m];by_cases b:j=i
   . subst b;rw [f,if_pos rfl,if_pos rfl];exact vJ k
   . rw [if_neg b];by_cases g:(j-1)/4=p
     . rw [if_pos g];have:=h.1 j d a b;rw [g]at this;exact mY (vJ k) this
     . rw [if_neg g];by_cases e3:(j-1)/4=i
       . rw [if_pos e3];have:=h.2 j d a e3 n;grind
       . rw [if_neg e3];exact h.1 j d a b
 . rw [jv]at a;have q: ¬(p-1)/4=p:=(by omega);have r: ¬(p-1)/4=i:=(by omega);rw [j9 l e c,j9 l e c,if_neg q,if_neg r,if_neg (show¬j=p by omega)];have t:=h.1 p o c (by omega);by_cases b:j=i
   . grind
   . rw [if_neg b];have:=h.1 j d a b;grind[mY]
def xn(l:List Hd)(i:Nat):Prop:=(∀j,0<j->j<l.length->(j-1)/4≠i->hle (l.getD ((j-1)/4) default) (l.getD j default))/\ ∀j,0<j->j<l.length->(j-1)/4=i->0<i->hle (l.getD ((i-1)/4) default) (l.getD j default)
theorem dn_done(h:xn l i)(c: ∀j,0<j->j<l.length->(j-1)/4=i->hle (l.getD i default) (l.getD j default)):oY l:=by
 intro j a b;by_cases e:(j-1)/4=i
 . grind
 . exact h.1 j a b e
theorem dn_step(h:xn l i)(n:0<b)(a:b<l.length)(m:(b-1)/4=i)(o:hlt (l.getD b default) (l.getD i default))(p: ∀j,0<j->j<l.length->(j-1)/4=i->hle (l.getD b default) (l.getD j default)):xn (sw l i b) b:=by
 have d:i<l.length:=by omega
 refine⟨fun j e c f=>?_,fun j e c f _=>?_⟩
 . rw [jv]at c;rw [j9 l d a,j9 l d a,if_neg f];by_cases g:(j-1)/4=i
   . rw [if_pos g];by_cases k:j=b
     . rw [if_pos k];exact vJ o
     grind
   . rw [if_neg g];by_cases k:j=b
     . omega
     . rw [if_neg k];by_cases e3:j=i
       . subst e3;rw [if_pos rfl];exact h.2 b n a m e
       . rw [if_neg e3];exact h.1 j e c g
 . rw [jv]at c;rw [j9 l d a,j9 l d a,m,if_neg (show¬i=b by omega),if_pos rfl,if_neg (show¬j=b by omega),if_neg (show¬j=i by omega)];have:=h.1 j e c (by omega);rwa [f]at this
theorem heap_min(h:oY l): ∀j,j<l.length->hle (l.getD 0 default) (l.getD j default):=by
 intro j
 induction j using Nat.strongRecOn with
 | _ j a=>
   intro b;by_cases e:j=0
   . subst e;exact yu _
   . exact mY (a ((j-1)/4) (by omega) (by omega)) (h j (by omega) b)
theorem qB(l m:List Hd)(a:j<l.length):(l++m).getD j default=l.getD j default:=by grind
theorem AT(h:oY l)(x:Hd):uN (l++[x]) l.length:=by
 refine⟨fun j a b c=>?_,fun j a b c _=>?_⟩
 . simp at b;rw [qB l _ (by omega),qB l _ (by omega)];exact h j a (by omega)
 grind
theorem Ev(h:oY l){x:Hd}(k:hle x (l.getD i default)):uN (l.set i x) i:=by
 refine⟨fun j b a c=>?_,fun j b a c f=>?_⟩
 . rw [XL]at a;rw [rY,rY,if_neg (show¬(i=j/\_)from fun e=>c e.1.symm)]
   split
   . rename_i e;have:=h j b a;grind[mY]
   . exact h j b a
 . rw [XL]at a;rw [rY,rY,if_neg (show¬(i=j/\_) by omega),if_neg (show¬(i=(i-1)/4/\_) by omega)];have g:=h i f (by omega);have d:=h j b a;rw [c]at d;exact mY g d
theorem getD_take(l:List Hd)(a:j<n):(l.take n).getD j default=l.getD j default:=by grind
theorem heap_pop(h:oY l)(d:0<l.length):xn ((sw l 0 (l.length-1)).take (l.length-1)) 0:=by
 refine⟨fun j a b c=>?_,fun j a b c e=>?_⟩
 . rw [Xn,jv]at b;rw [getD_take _ (by omega),getD_take _ (by omega),j9 l (by omega) (by omega),j9 l (by omega) (by omega),if_neg (by omega),if_neg (by omega),if_neg (by omega),if_neg (by omega)];exact h j a (by omega)
 . omega
def jq(l:List Hd)(K:Nat->Option Int):Prop:=(l.map Hd.id).Nodup/\ ∀v k,K v=some k↔⟨v,k⟩∈l
def gz(K:Nat->Option Int)(v:Nat)(x:Option Int):Nat->Option Int:=fun u=>if u=v then x else K u
theorem jq.perm{m:List Hd}(h:jq l K)(p:m.Perm l):jq m K:=
 ⟨(p.map Hd.id).nodup_iff.2 h.1,fun v k=>by rw [h.2];grind⟩
theorem jq.free(h:jq l K){v:Nat}(c:K v=none):v∉l.map Hd.id:=by intro a;obtain⟨x,b,rfl⟩:=List.mem_map.1 a;have:=(h.2 x.id x.key).2 b;grind
theorem jq.push(h:jq l K){v:Nat}(d:K v=none)(k:Int):jq (l++[⟨v,k⟩]) (gz K v (some k)):=by
 refine⟨?_,fun u x=>?_⟩
 . rw [List.map_append,XT];exact⟨h.1,by simp,fun a f b g e=>h.free d (by grind)⟩
 . unfold gz;by_cases e:u=v
   . subst e;rw [if_pos rfl,List.mem_append];constructor
     . grind
     . rintro(c|c)
       . have:=(h.2 u x).2 c;grind
       grind
   . rw [if_neg e,List.mem_append,h.2];grind
theorem nodup_idx(h:(l.map Hd.id).Nodup)(a:i<l.length)(b:j<l.length)(e:(l.getD i default).id=(l.getD j default).id):i=j:=by refine th h (x:=(l.getD i default).id) (by simp [a]) ?_;grind
theorem jq.lower(h:jq l K)(f:i<l.length)(k:Int):jq (l.set i ⟨(l.getD i default).id,k⟩) (gz K (l.getD i default).id (some k)):=by
 have g:(l.set i ⟨(l.getD i default).id,k⟩).map Hd.id=l.map Hd.id:=by rw [List.map_set];refine Xx fun j=>?_;grind
 refine⟨by rw [g];exact h.1,fun u x=>?_⟩;unfold gz;by_cases e:u=(l.getD i default).id
 . rw [if_pos e];constructor
   . intro m;cases m;subst e;exact List.mem_iff_getElem?.2 ⟨i,by simp [f]⟩
   . intro b;obtain⟨j,a⟩:=List.mem_iff_getElem?.1 b;rw [XZ]at a
     split at a
     . cases a;rfl
     . rename_i c;have d:=(List.getElem?_eq_some_iff.1 a).1;exact absurd (nodup_idx h.1 f d (by grind)) c
 . rw [if_neg e,h.2];constructor
   . intro b;obtain⟨j,a⟩:=List.mem_iff_getElem?.1 b;refine List.mem_iff_getElem?.2 ⟨j,?_⟩;grind
   grind
theorem jq.pop(h:jq l K)(b:0<l.length):jq ((sw l 0 (l.length-1)).take (l.length-1)) (gz K (l.getD 0 default).id none):=by
 have p:=xd l (i:=0) (k:=l.length-1) b (by omega);have c:=h.perm p;have e:sw l 0 (l.length-1)=(sw l 0 (l.length-1)).take (l.length-1)++[l.getD 0 default]:=by refine Xx fun j=>?_;have g:=j9 l (i:=0) (k:=l.length-1) b (by omega) (l.length-1);rw [if_pos rfl]at g;grind[jv,XD,List.getElem?_take_of_lt,Xs,Ym]
 generalize(sw l 0 (l.length-1)).take (l.length-1)=m at*
 generalize l.getD 0 default=x at*
 rw [e]at c;obtain⟨a,o⟩:=c;rw [List.map_append,XT]at a;refine⟨a.1,fun v k=>?_⟩;unfold gz;by_cases d:v=x.id
 . rw [if_pos d];constructor
   . intro h;cases h
   . intro n;exact absurd d (a.2.2 v (List.mem_map_of_mem (f:=Hd.id) n) x.id (by simp))
 grind
theorem jq.at(h:jq l K)(a:i<l.length):K (l.getD i default).id=some (l.getD i default).key:=
 (h.2 _ _).2 (List.mem_iff_getElem?.2 ⟨i,by simp [a]⟩)
theorem jq.idx(h:jq l K){v:Nat}{k:Int}(a:K v=some k): ∃i,i<l.length/\l.getD i default=⟨v,k⟩:=by obtain⟨i,b⟩:=List.mem_iff_getElem?.1 ((h.2 v k).1 a);grind
theorem jq.nil(h:jq [] K)(v:Nat):K v=none:=by
 cases a:K v with
 |none=>rfl|some k=>have:=(h.2 v k).1 a;cases this
theorem cont_nil:jq [] (fun _=>none):=⟨.nil,fun v k=>by grind⟩
def FAR:Nat:=72057594037927936
def WMAX:Nat:=2147483647
theorem FAR_eq:FAR=72057594037927936:=rfl
theorem WMAX_eq:WMAX=2147483647:=rfl
inductive Wk(B:List Arc)(s:Nat):Nat->Nat->Prop where
 |nil:Wk B s s 0
 |snoc {w:Nat} {a:Arc}:a∈B->Wk B s a.s w->Wk B s a.t (w+a.w)
def IsD(B:List Arc)(s v x:Nat):Prop:=(x<FAR/\Wk B s v x/\ ∀w,Wk B s v w->x<=w)\/(x=FAR/\ ∀w,¬Wk B s v w)
theorem IsD.uniq{s v x:Nat}(h:IsD B s v x)(k:IsD B s v y):x=y:=by
 rcases h with⟨a,b,c⟩|⟨a,b⟩<;>rcases k with⟨d,e,f⟩|⟨d,e⟩
 . have:=c _ e;have:=f _ b;omega
 . exact absurd b (e _)
 . exact absurd e (b _)
 . omega
theorem IsD.le{s v x:Nat}(h:IsD B s v x):x<=FAR:=by rcases h with⟨a,_,_⟩|⟨a,_⟩<;>omega
theorem yl: ∀(N:Nat) (l:List Nat),l.Nodup->(∀x∈l,x<N)->l.length<=N
 | 0,l,_,h=>by
   cases l with
   |nil=>simp|cons x l=>have:=h x (by simp);omega
 | N+1,l,b,h=>by
   have f:=yl N (l.erase N) (b.erase N) (fun x c=>by
    have d:=h x (List.mem_of_mem_erase c);have g:x≠N:=fun e=>(by subst e;exact(List.Nodup.not_mem_erase b) c);omega)
   have d:=List.length_erase (a:=N) (l:=l)
   split at d<;>omega
section
variable{B:List Arc}{s N:Nat}{O:List Nat}{D:Nat->Nat}{K:Nat->Option Int}{ex:Arc->Prop}
structure Dj(B:List Arc)(s N:Nat)(O:List Nat)(D:Nat->Nat)(K:Nat->Option Int)(ex:Arc->Prop):Prop where
 i1: ∀v,v∈O->K v=none
 i2: ∀v∈O,Wk B s v (D v)/\(∀w,Wk B s v w->D v<=w)/\D v<=O.length*WMAX
 i2f: ∀v,v∉O->D v=FAR
 i3: ∀v k,K v=some k->v<N/\ ∃n:Nat,k=n/\Wk B s v n/\n<=O.length*WMAX
 i4: ∀a∈B,a.s∈O-> ¬ex a->a.t∈O\/ ∃k:Int,K a.t=some k/\k<=D a.s+a.w
 i5:s∈O\/K s=some 0
 nd:O.Nodup
 lt: ∀v∈O,v<N
theorem Dj.len(d:Dj B s N O D K ex):O.length<=N:=yl N O d.nd d.lt
theorem dj_init(hs:s<N):Dj B s N [] (fun _=>FAR) (gz (fun _=>none) s (some 0)) (fun _=>False):=by
 refine⟨fun v h=>(by cases h),fun v h=>(by cases h),fun v _=>rfl,fun v k h=>?_,fun a _ h=>(by cases h),.inr (by simp [gz]),.nil,fun v h=>(by cases h)⟩;unfold gz at h
 split at h
 . rename_i e;cases h;subst e;exact⟨hs,0,rfl,.nil,by simp⟩
 . cases h
theorem Dj.front(d:Dj B s N O D K (fun _=>False)){x w:Nat}(h:Wk B s x w):x∈O\/ ∃y k,K y=some k/\k<=(w:Int):=by
 induction h with
 |nil=>exact d.i5.imp (fun h=>h) (fun h=>⟨_,_,h,by omega⟩)
 | @snoc w a e f b=>
   rcases b with b|⟨y,k,c,g⟩
   . rcases d.i4 a e b (fun h=>h)with h|⟨k,c,g⟩
     . exact .inl h
     . have:=(d.i2 _ b).2.1 _ f;exact .inr ⟨_,k,c,by omega⟩
   . exact .inr ⟨y,k,c,by omega⟩
theorem Dj.pop(d:Dj B s N O D K (fun _=>False)){v:Nat}(q:K v=some (n:Int))(A: ∀u k,K u=some k->(n:Int)<=k):Dj B s N (O++[v]) (fun u=>if u=v then n else D u) (gz K v none) (fun a=>a.s=v)/\v∉O/\v<N/\n<=O.length*WMAX:=by
 have g:v∉O:=fun h=>by have:=d.i1 v h;rw [q]at this;cases this
 obtain⟨i,C,e,E,l⟩:=d.i3 v _ q;have e:n=C:=by omega
 subst e;have r:(O++[v]).length*WMAX=O.length*WMAX+WMAX:=by rw [Xd,Yl,Nat.succ_mul]
 refine⟨⟨fun u f=>?_,fun u f=>?_,fun u f=>?_,fun u k f=>?_,fun a o t x=>?_,?_,?_,fun u f=>?_⟩,g,i,l⟩
 . unfold gz;by_cases e:u=v
   . rw [if_pos e]
   . rw [if_neg e];simp [e]at f;exact d.i1 u f
 . rw [r];by_cases e:u=v
   . subst e;simp only [if_true];refine⟨E,fun w h=>?_,by omega⟩;rcases d.front h with j|⟨y,k,j,z⟩
     . exact absurd j g
     . have:=A y k j;omega
   . simp only [e,if_false];simp [e]at f;obtain⟨a,b,c⟩:=d.i2 u f;exact⟨a,b,by omega⟩
 . simp at f;simp only [f.2,if_false];exact d.i2f u f.1
 . unfold gz at f
   split at f
   . cases f
   . obtain⟨a,m,b,c,e⟩:=d.i3 u k f;exact⟨a,m,b,c,by rw [r];omega⟩
 . simp [x]at t;have p: ¬a.s=v:=x;simp only [p,if_false];rcases d.i4 a o t (fun h=>h)with h|⟨k,j,z⟩
   . exact .inl (by simp [h])
   . by_cases e:a.t=v
     . exact .inl (by simp [e])
     . exact .inr ⟨k,by unfold gz;rw [if_neg e];exact j,z⟩
 . rcases d.i5 with h|h
   . exact .inl (by simp [h])
   . by_cases e:s=v
     . exact .inl (by simp [e])
     . exact .inr (by unfold gz;rw [if_neg e];exact h)
 . rw [XT];exact⟨d.nd,by simp,fun a o b l e=>g (by simp at l;subst l;subst e;exact o)⟩
 . rcases List.mem_append.1 f with h|h
   . exact d.lt u h
   . simp at h;subst h;exact i
def kC(O:List Nat)(K:Nat->Option Int)(u:Nat)(x:Int):Nat->Option Int:=if u∈O then K else match K u with
 |some k=>if k<=x then K else gz K u (some x)
 |none=>gz K u (some x)
theorem Dj.relaxed(d:Dj B s N O D K ex){a:Arc}(t:a∈B)(hs:a.s∈O)(u:a.t<N)(m:D a.s+a.w<=O.length*WMAX)(w: ∀b∈B,¬ex' b-> ¬ex b\/b=a):Dj B s N O D (kC O K a.t ((D a.s+a.w:Nat):Int)) ex':=by
 have f: ∀i,(∀v,v∈O->i v=K v)->(∀v k,i v=some k->K v=some k\/(v=a.t/\k=((D a.s+a.w:Nat):Int)))->(∀v k,K v=some k-> ∃j,i v=some j/\j<=k)->(a.t∈O\/ ∃k:Int,i a.t=some k/\k<=D a.s+a.w)->Dj B s N O D i ex':=by
  intro i x q r y;refine⟨fun v c=>by rw [x v c];exact d.i1 v c,d.i2,d.i2f,fun v k g=>?_,fun b m n o=>?_,?_,d.nd,d.lt⟩
  . rcases q v k g with h|⟨rfl,rfl⟩
    . exact d.i3 v k h
    . exact⟨u,_,rfl,.snoc t (d.i2 _ hs).1,m⟩
  . rcases w b m o with h|rfl
    . rcases d.i4 b m n h with h|⟨k,z,C⟩
      . exact .inl h
      . obtain⟨j,l,A⟩:=r _ _ z;exact .inr ⟨j,l,by omega⟩
    . exact y
  . rcases d.i5 with h|h
    . exact .inl h
    . obtain⟨j,l,A⟩:=r _ _ h;rcases q _ _ l with p|⟨p,E⟩
      . rw [h]at p;exact .inr (by rw [l,p])
      . exact .inr (by rw [l];congr 1;omega)
 unfold kC;by_cases h:a.t∈O
 . rw [if_pos h];exact f K (fun _ _=>rfl) (fun _ _ h=>.inl h) (fun v k h=>⟨k,h,by omega⟩) (.inl h)
 . rw [if_neg h];have upd:(∀k,K a.t=some k->((D a.s+a.w:Nat):Int)<=k)->Dj B s N O D (gz K a.t (some ((D a.s+a.w:Nat):Int))) ex':=fun g=>by
    refine f _ (fun v c=>?_) (fun v k c=>?_) (fun v k c=>?_) (.inr ⟨((D a.s+a.w:Nat):Int),by unfold gz;rw [if_pos rfl],by omega⟩)
    . unfold gz;rw [if_neg (fun e=>h (by subst e;exact c))]
    . unfold gz at c
      split at c
      . rename_i e;cases c;exact .inr ⟨e,rfl⟩
      . exact .inl c
    . unfold gz;by_cases e:v=a.t
      . rw [if_pos e];subst e;exact⟨_,rfl,g k c⟩
      . rw [if_neg e];exact⟨k,c,by omega⟩
   cases g:K a.t with
   |none=>simp only [];exact upd (fun k e=>by rw [g]at e;cases e)
   | some k=>
     simp only []
     split
     . rename_i hle;exact f K (fun _ _=>rfl) (fun _ _ h=>.inl h) (fun v k h=>⟨k,h,by omega⟩) (.inr ⟨k,g,by omega⟩)
     . rename_i hle;exact upd (fun j e=>by rw [g]at e;cases e;omega)
theorem Dj.done(d:Dj B s N O D K (fun _=>False))(f: ∀v,K v=none)(g:N<=12)(v:Nat):IsD B s v (D v):=by
 have j:=XU WMAX (Xm d.len g);have:=FAR_eq;have:=WMAX_eq;by_cases h:v∈O
 . obtain⟨a,b,c⟩:=d.i2 v h;exact .inl ⟨by omega,a,b⟩
 . refine .inr ⟨d.i2f v h,fun w i=>?_⟩;rcases d.front i with e|⟨y,k,e,_⟩
   . exact h e
   . rw [f]at e;cases e
end
theorem uZ{A:List Arc}{f:Arc->Nat}{v:Nat}:i∈outs A f j v↔i<j/\f (A.getD i default)=v:=by unfold outs;rw [List.mem_filter,YH,decide_eq_true_eq]
def du(a:Arc):Arc:=⟨a.t,a.s,a.w⟩
structure Ls(B:List Arc)(s N:Nat)(l:Nat->Nat):Prop where
 le: ∀v,l v<=FAR
 wk: ∀v,l v=FAR\/Wk B s v (l v)
 s0:l s=0
def jz(l:Nat->Nat)(v x:Nat):Nat->Nat:=fun u=>if u=v then x else l u
def EM(l:List (Int×Value×Nat)):List (Value×Value×Nat):=l.map fun p=>(.int .i64 p.1,p.2.1,p.2.2)
def fG(f:Int->Option Value)(x:Int)(v:Option Value):Int->Option Value:=fun y=>if y=x then v else f y
def fg(a:List (Value×Value×Nat))(c:Nat)(f:Int->Option Value):Prop:=
 ∃l,a=EM l/\(l.map XR).Nodup/\(l.map fun p=>p.2.2).Nodup/\(∀p∈l,p.2.2<c)/\ ∀x v,f x=some v↔ ∃n,(x,v,n)∈l
theorem xA{y:Int}:dL (.int .i64 x) (.int .i64 y)=some (decide (x=y)):=by show some (iW x y)=_;congr 1;rw [oG]
theorem CW{l:List (Int×Value×Nat)}(a:(l.map XR).Nodup)(h:(x,v,n)∈l):dA (.int .i64 x) (EM l)=some (some (v,n)):=by
 induction l with
 |nil=>cases h
 | cons p l b=>
   obtain⟨y,w,m⟩:=p;show(match dL (.int .i64 x) (.int .i64 y)with|none=>none|some true=>some (some (w,m))|some false=>dA (.int .i64 x) (EM l))=_;rw [xA];grind
theorem find_miss{l:List (Int×Value×Nat)}(h:x∉l.map XR):dA (.int .i64 x) (EM l)=some none:=by
 induction l with
 |nil=>rfl| cons p l a=>
   obtain⟨y,w,m⟩:=p;show(match dL (.int .i64 x) (.int .i64 y)with|none=>none|some true=>some (some (w,m))|some false=>dA (.int .i64 x) (EM l))=_;simp_all[xA,XM,XQ,not_or,decide_eq_false]
theorem wV{l:List (Int×Value×Nat)}(c:(l.map XR).Nodup)(h:(x,v,n)∈l):
 ∃a b,l=a++(x,v,n)::b/\(∀w,oy (.int .i64 x) w (EM l)=EM (a++(x,w,n)::b))/\mL (.int .i64 x) (EM l)=EM (a++b):=by
 induction l with
 |nil=>cases h
 | cons p l d=>
   obtain⟨y,w,m⟩:=p;rw [XM,Yd]at c;by_cases e:x=y
   . subst e;rcases List.mem_cons.1 h with h|h
     . cases h;refine⟨[],l,rfl,fun u=>?_,?_⟩
       . show(match dL (.int .i64 x) (.int .i64 x)with|some true=>_|_=>_)=_;rw [xA,decide_eq_true rfl];rfl
       . show(match dL (.int .i64 x) (.int .i64 x)with|some true=>_|_=>_)=_;rw [xA,decide_eq_true rfl];rfl
     grind
   . rcases List.mem_cons.1 h with h|h
     . grind
     grind[dL,oy,EM,xA,decide_eq_false,mL]
theorem xU{a b:List (Int×Value×Nat)}(c:((a++(x,v,n)::b).map fun p=>p.2.2).Nodup):jR n w (EM (a++(x,v,n)::b))=some (EM (a++(x,w,n)::b)):=by
 induction a with
 | nil=>
   show(bif X2 n n then _ else _)=_;rw [Yw];rfl
 | cons p a d=>
   obtain⟨y,u,m⟩:=p;rw [Yj,XM,Yd]at c;grind[X2,Yk,absurd,jR,EM]
theorem fst_app{a b:List (Int×Value×Nat)}:(a++(x,v,n)::b).map XR=a.map XR++x::b.map XR:=by simp
section
variable{es:List (Value×Value×Nat)}{c:Nat}{f:Int->Option Value}{x:Int}
theorem yz:fg [] 0 (fun _=>none):=⟨[],rfl,.nil,.nil,fun _ h=>(by cases h),fun x v=>⟨fun h=>(by cases h),fun⟨_,h⟩=>(by cases h)⟩⟩
theorem fg.hit(h:fg es c f)(hf:f x=some v): ∃n,dA (.int .i64 x) es=some (some (v,n)):=by obtain⟨l,rfl,a,b,d,e⟩:=h;grind[hf,CW]
theorem fg.miss(h:fg es c f)(hf:f x=none):dA (.int .i64 x) es=some none:=by obtain⟨l,rfl,e,g,i,a⟩:=h;refine find_miss fun b=>?_;obtain⟨⟨y,v,n⟩,d,rfl⟩:=List.mem_map.1 b;have:=(a y v).2 ⟨n,d⟩;grind
theorem xZ{a b:List (Int×Value×Nat)}(e:((a++(x,v,n)::b).map XR).Nodup)(j:((a++(x,v,n)::b).map fun p=>p.2.2).Nodup)(g: ∀p∈a++(x,v,n)::b,p.2.2<c)(k: ∀x' v',f x'=some v'↔ ∃h,(x',v',h)∈a++(x,v,n)::b):fg (EM (a++(x,w,n)::b)) c (fG f x (some w)):=by
 have i:=e;rw [fst_app,XT]at i;refine⟨_,rfl,by grind,by grind,fun p d=>?_,fun y u=>?_⟩
 . rcases List.mem_append.1 d with d|d
   . grind
   . rcases List.mem_cons.1 d with rfl|d
     . exact g (x,v,n) (by simp)
     grind
 . unfold fG;grind
theorem yd{l:List (Int×Value×Nat)}(g:(l.map XR).Nodup)(h:(l.map fun p=>p.2.2).Nodup)(i: ∀p∈l,p.2.2<c)(b: ∀x' v',f x'=some v'↔ ∃d,(x',v',d)∈l)(hf:f x=none):fg (EM (l++[(x,w,c)])) (c+1) (fG f x (some w)):=by
 have j:x∉l.map XR:=fun e=>by obtain⟨⟨y,v,n⟩,a,rfl⟩:=List.mem_map.1 e;have:=(b y v).2 ⟨n,a⟩;grind
 refine⟨_,rfl,?_,?_,fun p a=>?_,fun y u=>?_⟩
 . grind
 . grind
 . grind
 . unfold fG;grind
theorem em_app(l:List (Int×Value×Nat))(v:Value)(n:Nat):EM l++[(.int .i64 x,v,n)]=EM (l++[(x,v,n)]):=by unfold EM;grind
theorem fg.put(h:fg es c f)(v:Value): ∃d o,(match dA (.int .i64 x) es with|none=>none|some (some _)=>some (oy (.int .i64 x) v es,c)|some none=>some (es++[(.int .i64 x,v,c)],c+1))=some (d,o)/\fg d o (fG f x (some v)):=by
 cases hf:f x with
 | none=>
   rw [h.miss hf];obtain⟨l,rfl,g,j,k,i⟩:=h;exact⟨_,_,rfl,by rw [em_app];exact yd g j k i hf⟩
 | some w=>
   obtain⟨n,e⟩:=h.hit hf;rw [e];obtain⟨l,rfl,g,j,k,i⟩:=h;obtain⟨m,p⟩:=(i x w).1 hf;obtain⟨a,b,rfl,q,_⟩:=wV g p;exact⟨_,_,rfl,by rw [q];exact xZ g j k i⟩
theorem del_miss{l:List (Int×Value×Nat)}(h:x∉l.map XR):mL (.int .i64 x) (EM l)=EM l:=by
 induction l with
 |nil=>rfl| cons p l a=>
   obtain⟨y,w,m⟩:=p;simp only [XM,XQ,not_or]at h;grind[dL,mL,EM,xA,decide_eq_false]
theorem fg.del(h:fg es c f):fg (mL (.int .i64 x) es) c (fG f x none):=by
 obtain⟨l,rfl,d,o,g,i⟩:=h;cases hf:f x with
 | none=>
   have q:x∉l.map XR:=fun e=>(by obtain⟨⟨y,v,n⟩,j,rfl⟩:=List.mem_map.1 e;have:=(i y v).2 ⟨n,j⟩;grind);rw [del_miss q];refine⟨l,rfl,d,o,g,fun y u=>?_⟩;unfold fG;grind
 | some w=>
   obtain⟨m,e⟩:=(i x w).1 hf;obtain⟨a,b,rfl,_,r⟩:=wV d e;rw [r];have k:=d;rw [fst_app,XT]at k;obtain⟨t,s,z⟩:=k;rw [Yd]at s;refine⟨a++b,rfl,?_,?_,fun p j=>g p ?_,fun y u=>?_⟩
   . grind
   . grind
   . grind
   . unfold fG;grind
theorem fg.ent(h:fg es c f)(z:Value): ∃d q n,(match dA (.int .i64 x) es with|none=>none|some (some (v,n))=>some (oy (.int .i64 x) v es,c,v,n)|some none=>some (es++[(.int .i64 x,z,c)],c+1,z,c))=some (d,q,(f x).getD z,n)/\fg d q (fG f x (some ((f x).getD z)))/\
 ∀w,∃es2,jR n w d=some es2/\fg es2 q (fG f x (some w)):=by
 cases hf:f x with
 | none=>
   rw [h.miss hf];obtain⟨l,rfl,g,i,o,j⟩:=h;have k:=yd (w:=z) g i o j hf;refine⟨_,_,_,rfl,by rw [em_app];exact k,fun w=>?_⟩;rw [em_app];obtain⟨u,e,y,A,B,C⟩:=k;have t:((l++(x,z,c)::[]).map fun p=>p.2.2).Nodup:=(by grind);exact⟨_,xU t,yd g i o j hf⟩
 | some v=>
   obtain⟨l,rfl,g,i,o,j⟩:=h;obtain⟨m,r⟩:=(j x v).1 hf;rw [CW g r];obtain⟨a,b,rfl,s,_⟩:=wV g r;refine⟨_,_,_,rfl,by rw [s];exact xZ g i o j,fun w=>?_⟩;rw [s];exact⟨_,xU (by simpa using i),xZ g i o j⟩
end
section
variable{M:Nat->Prop}{h0 h:Hp}{L:List (Nat×Ob)}{G:List GL}{E:Env}{t kt el:TypeId}{b c:Nat}{es:List (Value×Value×Nat)}{f:Int->Option Value}{x:Int}
theorem wJ(a:E.und kt=some (.int .i64)):cG E kt (.int .i64 x)=true:=by simp only [cG,a];rfl
theorem uG(a:E.und t=some (.map kt el))(d:E.und kt=some (.int .i64))(g:E.zeroV el=some z)(i:h.get b=some (.map es c))(m:fg es c f):fi E h t (.map (some b)) (.int .i64 x) true=some (.tuple #[(f x).getD z,.bool (f x).isSome]):=by
 simp only [fi,a,wJ d,cond_true,i];cases hf:f x with
 |none=>rw [m.miss hf];simp [g]|some v=>obtain⟨n,e⟩:=m.hit hf;rw [e];simp
theorem xG(a:E.und t=some (.map kt el))(d:E.und kt=some (.int .i64))(g:E.zeroV el=some z)(i:h.get b=some (.map es c))(m:fg es c f):fi E h t (.map (some b)) (.int .i64 x) false=some ((f x).getD z):=by
 simp only [fi,a,wJ d,cond_true,i];cases hf:f x with
 |none=>rw [m.miss hf];simp [g]|some v=>obtain⟨n,e⟩:=m.hit hf;rw [e];simp
theorem rH{x:Blk}{a:List (Value×Value×Nat)}{d:Nat}(e:h.get b=some x):(h.put b (.map a d)).get b=some (.map a d):=by rw [Hp.get_put,if_pos ⟨rfl,by rw [e];rfl⟩]
theorem St.mputI(S:St M h0 h L G)(e:L[i]? =some (b,.map es c))(j:E.und t=some (.map kt el))(k:E.und kt=some (.int .i64))(m:fg es c f)(v:Value):
 ∃h',ki E h t (.map (some b)) (.int .i64 x) v=some h'/\Mo (· =b) h h'/\ ∃a d,fg a d (fG f x (some v))/\St M h0 h' (L.set i (b,.map a d)) G:=by
 have g:h.get b=some (.map es c):=(S.own _ (zM e)).2;obtain⟨a,d,n,l⟩:=m.put (x:=x) v;refine⟨h.put b (.map a d),?_,(Mo.refl (M:=(· =b)) S.ok).put (.inr rfl) _,a,d,l,S.put e (o':=.map a d) (rH g)⟩;simp only [ki,mq,j,wJ k,cond_true,g];grind
theorem St.mdelI(S:St M h0 h L G)(d:L[i]? =some (b,.map es c))(k:E.und t=some (.map kt el))(l:E.und kt=some (.int .i64))(m:fg es c f):
 ∃h',oZ E h t (.map (some b)) (.int .i64 x)=some h'/\Mo (· =b) h h'/\ ∃a g,fg a g (fG f x none)/\St M h0 h' (L.set i (b,.map a g)) G:=by
 have j:h.get b=some (.map es c):=(S.own _ (zM d)).2;refine⟨h.put b (.map (mL (.int .i64 x) es) c),?_,(Mo.refl (M:=(· =b)) S.ok).put (.inr rfl) _,_,c,m.del (x:=x),S.put d (o':=.map _ c) (rH j)⟩;simp only [oZ,mq,k,wJ l,cond_true,j];cases hf:f x with
 |none=>rw [m.miss hf]|some v=>obtain⟨n,e⟩:=m.hit hf;rw [e]
theorem St.mentI(S:St M h0 h L G)(e:L[i]? =some (b,.map es c))(j:E.und t=some (.map kt el))(k:E.und kt=some (.int .i64))(l:E.zeroV el=some z)(m:fg es c f):
 ∃ h' n,k9 E h t (.map (some b)) (.int .i64 x)=some (h',.tuple #[(f x).getD z,.int .i64 (Yn n)])/\Mo (· =b) h h'/\ ∃a d,fg a d (fG f x (some ((f x).getD z)))/\St M h0 h' (L.set i (b,.map a d)) G/\
   ∀w,∃es2,jR n w a=some es2/\fg es2 d (fG f x (some w)):=by
 have g:h.get b=some (.map es c):=(S.own _ (zM e)).2;obtain⟨a,d,n,q,o,p⟩:=m.ent (x:=x) z;refine⟨h.put b (.map a d),n,?_,(Mo.refl (M:=(· =b)) S.ok).put (.inr rfl) _,a,d,o,S.put e (o':=.map a d) (rH g),p⟩;simp only [k9,mq,j,wJ k,cond_true,g,l];grind
theorem St.mstoreI(S:St M h0 h L G)(a:L[i]? =some (b,.map es c)){es2:List (Value×Value×Nat)}(hs:jR n w es=some es2):
 ∃h',oI h (.map (some b)) (.int .i64 (Yn n)) w=some h'/\Mo (· =b) h h'/\St M h0 h' (L.set i (b,.map es2 c)) G:=by
 have d:h.get b=some (.map es c):=(S.own _ (zM a)).2;refine⟨h.put b (.map es2 c),?_,(Mo.refl (M:=(· =b)) S.ok).put (.inr rfl) _,S.put a (o':=.map es2 c) (rH d)⟩;simp only [oI,d,gM,hs]
end
def oD(x:Hd):List Value:=[.int .i64 x.id,.int .i64 x.key]
theorem mM(x:Hd):(oD x).length=2:=rfl
structure fE(cs:List Value)(cap:Nat)(l:List Hd):Prop where
 len:cs.length=cap*2
 le:l.length<=cap
 at0: ∀i,i<l.length->cs[i*2]? =some (.int .i64 (l.getD i default).id)/\cs[i*2+1]? =some (.int .i64 (l.getD i default).key)
def mX(f:Int->Option Value)(l:List Hd):Prop:=(∀i,i<l.length->f (l.getD i default).id=some (.int .i64 i))/\ ∀x v,f x=some v-> ∃i,i<l.length/\x=(l.getD i default).id
section
variable{h:Hp}{bl cap i:Nat}{cs:List Value}{l:List Hd}{md:Nat}
theorem fE.ld0(c:fE cs cap l)(r:Row h bl cs md)(a:i<l.length):h.load bl (i*2) 1=some [.int .i64 (l.getD i default).id]:=r.load1 (c.at0 i a).1
theorem fE.ld1(c:fE cs cap l)(r:Row h bl cs md)(a:i<l.length):h.load bl (i*2+1) 1=some [.int .i64 (l.getD i default).key]:=r.load1 (c.at0 i a).2
theorem fE.ld2(c:fE cs cap l)(r:Row h bl cs md)(a:i<l.length):h.load bl (i*2) 2=some [.int .i64 (l.getD i default).id,.int .i64 (l.getD i default).key]:=by have d:=(c.at0 i a).1;have b:=(c.at0 i a).2;have e:=(List.getElem?_eq_some_iff.1 b).1;rw [r.load (by omega)];grind[Yc,List.getElem?_eq_some_iff]
theorem yj{x y:Value}(a:i*2+2<=cs.length)(j:Nat):(lay cs (i*2) [x,y])[j]? =if j=i*2 then some x else if j=i*2+1 then some y else cs[j]? :=by rw [lH (by simpa using a)];grind
theorem fE.set(c:fE cs cap l)(d:i<l.length)(x:Hd):fE (lay cs (i*2) [.int .i64 x.id,.int .i64 x.key]) cap (l.set i x):=by
 have f:=c.len;have hle:=c.le;have a:i*2+2<=cs.length:=by omega
 refine⟨by grind[rP],by grind,fun j b=>?_⟩;rw [XL]at b;rw [yj a,yj a,rY];by_cases e:i=j
 . grind
 . rw [if_neg (by omega),if_neg (by omega),if_neg (by omega),if_neg (by omega),if_neg (by omega)];exact c.at0 j b
theorem fE.setKey(c:fE cs cap l)(a:i<l.length)(k:Int):fE (lay cs (i*2+1) [.int .i64 k]) cap (l.set i ⟨(l.getD i default).id,k⟩):=by
 have d:=c.len;have hle:=c.le;have e:lay cs (i*2+1) [.int .i64 k]=lay cs (i*2) [.int .i64 (l.getD i default).id,.int .i64 k]:=by
  refine Xx fun j=>?_;rw [yj (by omega),lH (by simp;omega)];simp only [XK,Yb];by_cases b:j=i*2
  . subst b;rw [if_neg (by omega),if_pos rfl];exact(c.at0 i a).1
  grind
 rw [e];exact c.set a ⟨(l.getD i default).id,k⟩
end
theorem set_sw(l:List Hd)(i k:Nat):(l.set i (l.getD k default)).set k (l.getD i default)=sw l i k:=rfl
theorem mX.inj{f:Int->Option Value}(h:mX f l)(a:i<l.length)(b:j<l.length)(e:(l.getD i default).id=(l.getD j default).id):i=j:=by have c:=h.1 i a;have d:=h.1 j b;grind
theorem mX.swap{f:Int->Option Value}(h:mX f l)(a:i<l.length)(c:k<l.length):mX (fG (fG f ((sw l i k).getD i default).id (some (.int .i64 i))) ((sw l i k).getD k default).id (some (.int .i64 k))) (sw l i k):=by
 have o:=j9 l a c i;have p:=j9 l a c k;rw [if_pos rfl]at p;refine⟨fun j b=>?_,fun x v n=>?_⟩
 . rw [jv]at b;have d:=j9 l a c j;unfold fG;by_cases g:j=k
   . grind
   . rw [if_neg g]at d;by_cases m:j=i
     . subst m;rw [if_neg,if_pos rfl];rw [if_neg g,if_pos rfl]at o;rw [o,p];intro e;exact g (h.inj c a (by omega)).symm
     . rw [if_neg m]at d;rw [if_neg,if_neg]
       . rw [d];exact h.1 j b
       . rw [d,o];intro e
         split at e
         . exact m (h.inj b a (by omega))
         . rename_i e3;rw [if_pos rfl]at e;exact g (h.inj b c (by omega))
       . rw [d,p];intro e;exact m (h.inj b a (by omega))
 . unfold fG at n;by_cases g:x=((sw l i k).getD k default).id
   . grind[jv]
   . rw [if_neg g]at n;by_cases m:x=((sw l i k).getD i default).id
     . grind[jv]
     . rw [if_neg m]at n;obtain⟨j,b,e⟩:=h.2 x v n;refine⟨j,by rw [jv];exact b,?_⟩;have d:=j9 l a c j;grind
structure ik(h:Hp)(bh bl bm cap:Nat)(n:Int)(l:List Hd):Prop where
 row:Row h bh [.slice (some ⟨bl,0,some 2⟩) l.length cap,.map (some bm),.int .i64 n] 1
 ex: ∃cs es c f,Row h bl cs 1/\h.get bm=some (.map es c)/\fE cs cap l/\fg es c f/\mX f l
 ne:bh≠bl/\bh≠bm/\bl≠bm
theorem ik.mo{n:Int}(r:ik h e i j cap n l)(g:Mo M h h')(m: ¬M e)(p: ¬M i)(q: ¬M j):ik h' e i j cap n l:=by obtain⟨s,k,c,f,a,b,d⟩:=r.ex;exact⟨g.has (o:=.row _ 1) r.row m,⟨s,k,c,f,g.has (o:=.row _ 1) a p,g.has (o:=.map k c) b q,d⟩,r.ne⟩
theorem ik.mo1{d:Nat}{n:Int}(r:ik h a b d cap n l)(g:Mo M h h')(e: ∀c,c=a\/c=b\/c=d-> ¬M c):ik h' a b d cap n l:=
 r.mo g (e _ (.inl rfl)) (e _ (.inr (.inl rfl))) (e _ (.inr (.inr rfl)))
theorem ik.lt{h:Hp}(e:OZ h){g i j cap:Nat}{n:Int}{l:List Hd}(r:ik h g i j cap n l): ∀c,c=g\/c=i\/c=j->c<h.n:=by
 obtain⟨k,m,c,f,a,b,d⟩:=r.ex;rintro c (rfl|rfl|rfl)
 . exact r.row.lt e
 . exact a.lt e
 . exact jO e b
theorem ik.gr{c:Nat}{n:Int}(r:ik h a b c cap n l)(g:Gr h h'):ik h' a b c cap n l:=r.mo (M:=NoM) g.fr (fun h=>h) (fun h=>h) (fun h=>h)
theorem St.init2(d:OZ h)(e:Has h a o1)(f:Has h b o2)(c:a≠b)(m1:M a)(m2:M b):St M h h [(a,o1),(b,o2)] []:=by refine⟨Mo.refl d,fun p g=>?_,fun _ h=>(by cases h),by simp [keys,c]⟩;grind
theorem St.init3(d:OZ h){c:Nat}{o3:Ob}(i:Has h a o1)(j:Has h b o2)(k:Has h c o3)(e:a≠b)(f:a≠c)(g:b≠c)(m1:M a)(m2:M b)(m3:M c):St M h h [(a,o1),(b,o2),(c,o3)] []:=by refine⟨Mo.refl d,fun p l=>?_,fun _ h=>(by cases h),by simp [keys,e,f,g]⟩;grind
def cmpI(a b:Int):Int:=if a<b then-1 else if b<a then 1 else 0
theorem Dm{b:Hp}(c:OZ b){a:Int}:cj zB 243 [.int .i64 a] b (.bool false):=by have S:=Si c;refine erA (n:=6) (rs:=[.tmp 2]) Tryz.e243 ?_;simp only [BZ,ab,seval];exact S.gr
theorem nanI_ok{b:Hp}(c:OZ b){a:Int}:cj zB 244 [.int .i64 a] b (.bool false):=by have S:=Si c;refine erA (n:=6) (rs:=[.tmp 2]) Tryz.e244 ?_;simp only [BZ,ab,seval];exact S.gr
theorem cmp64_ok(f:OZ c){a b:Int}:cj zB 238 [.int .i64 a,.int .i64 b] c (.int .i64 (cmpI a b)):=by
 have S:=Si f;unfold cmpI;refine erA (n:=20) (rs:=[.tmp 4]) Tryz.e238 ?_;simp only [BZ,seval];refine ar (Dm S.ok) ?_;intro h g;replace S:=S.call g;simp only [BZ,seval];refine ar (Dm S.ok) ?_;intro h g;replace S:=S.call g;by_cases d:a<b
 . simp only [BZ,ab,d,seval];exact S.gr
 . by_cases e:b<a
   . simp only [BZ,ab,d,e,seval];exact S.gr
   . simp only [BZ,ab,d,e,seval];exact S.gr
theorem cmpInt_ok(f:OZ c){a b:Int}:cj zB 239 [.int .i64 a,.int .i64 b] c (.int .i64 (cmpI a b)):=by
 have S:=Si f;unfold cmpI;refine erA (n:=20) (rs:=[.tmp 4]) Tryz.e239 ?_;simp only [BZ,seval];refine ar (nanI_ok S.ok) ?_;intro h g;replace S:=S.call g;simp only [BZ,seval];refine ar (nanI_ok S.ok) ?_;intro h g;replace S:=S.call g;by_cases d:a<b
 . simp only [BZ,ab,d,seval];exact S.gr
 . by_cases e:b<a
   . simp only [BZ,ab,d,e,seval];exact S.gr
   . simp only [BZ,ab,d,e,seval];exact S.gr
theorem or2_ok(q:OZ c){a b:Int}(h:aH c 1 (encI .i64) v [a,b]):cj zB 237 [v] c (.int .i64 (if a=0 then b else a)):=by
 have S:=Si q;obtain⟨j,k,r,f⟩:=h.ix (kd:=.i64) (aE .i64) (i:=0) (by simp);obtain⟨l,m,s,g⟩:=h.ix (kd:=.i64) (aE .i64) (i:=1) (by simp);have d:iC (some 1) v (.int .i64 0)=some (.pointer (some ⟨j,k,none⟩)):=r;have e:iC (some 1) v (.int .i64 1)=some (.pointer (some ⟨l,m,none⟩)):=s;replace f:c.load j k 1=some [.int .i64 a]:=f;replace g:c.load l m 1=some [.int .i64 b]:=g;have t:am .i64 1=1:=rfl;have u:am .i64 2=2:=rfl;refine erA (n:=18) (rs:=[.tmp 2]) Tryz.e237 ?_;simp only [BZ,Xc,h.lenq,seval];rw [d9];by_cases o:a=0
 . simp only [BZ,d,f,o,t,seval];rw [d9];by_cases p:b=0
   . simp only [BZ,e,g,p,u,seval];rw [d9];simp only [BZ,ab,seval];exact S.gr
   . simp only [BZ,ab,e,g,p,seval];exact S.gr
 . simp only [BZ,ab,d,f,o,seval];exact S.gr
theorem B6{r:Hp}(u:OZ r){v x D:Nat}{n:Int}(R:ik r v x D cap n l)(s:i<l.length)(t:k<l.length):cj zB 231 [ptrTo v,.int .i64 i,.int .i64 k] r (.bool (decide (hlt (l.getD i default) (l.getD k default)))):=by
 have S:=Si u;obtain⟨F,G,c,f,d,H,C,I,J⟩:=R.ex;have a:=R.row.load1 (o:=0) rfl;have e:=C.ld0 d s;have j:=C.ld1 d s;have m:=C.ld0 d t;have p:=C.ld1 d t;refine erA (n:=44) (rs:=[.tmp 6]) Tryz.e231 ?_;simp only [BZ];refine av (aB rfl) (q:=17179869184) (ps:=[(16,32),(16,28),(16,24),(16,20)]) (by kernel_rfl) ?_;simp only [BZ,cls,a,s,t,j,p,seval];refine da (cmp64_ok S.ok) ?_;intro h g;replace S:=S.call g;replace a:=g.load a;replace e:=g.load e;replace j:=g.load j;replace m:=g.load m;replace p:=g.load p;have y:leaves _ _ x=true:=aI g (d.lt u);have z:leaves _ _ v=true:=aI g (R.row.lt u);clear g;simp only [BZ,cls,a,s,t,e,m,seval];refine da (cmpInt_ok S.ok) ?_;intro K g;replace S:=S.call g;replace a:=g.load a;replace e:=g.load e;replace j:=g.load j;replace m:=g.load m;replace p:=g.load p;clear g;simp only [BZ,cls,seval];refine dR (bD (by exact Tryz.t38.1) (by exact Tryz.e3E) (by decide) (by rfl)) S ?_;clear S;intro h w S A B;simp only [LC,bA,bN,ae,Xl,Xj,Xa,Xp,seval]at S;simp only [BZ,cls,seval];have E:aH h 1 (encI .i64) (.slice (some ⟨w,0,none⟩) 2 2) [cmpI (l.getD i default).key (l.getD k default).key,cmpI (l.getD i default).id (l.getD k default).id]:=.inr ⟨w,0,none,2,rfl,Xz _,S.lds (b:=w) (o:=0) (n:=2*1) m0 (lbt rfl)⟩;refine da (or2_ok S.ok E) ?_;intro L g;replace S:=S.call g;simp only [BZ,cls,ab,seval];refine⟨by simp only [aR,aZ,aM,bo,aP,ne_eq,not_false_eq_true,bj,bH,aQ,aO,bS,cq,az,XH,ah,aJ y,aJ z,aG y,aG z,seval],?_⟩;have e3:decide ((if cmpI (l.getD i default).key (l.getD k default).key=0 then cmpI (l.getD i default).id (l.getD k default).id else cmpI (l.getD i default).key (l.getD k default).key)<0)=decide (hlt (l.getD i default) (l.getD k default)):=by
  congr 1;rw [eq_iff_iff];unfold cmpI hlt
  repeat' split
  all_goals omega
 exact⟨by rw [e3],S.gr⟩
theorem xx{p:Hp}(ok:OZ p){d g:Nat}{n:Int}(R:ik p y d g cap n l)(u:i<l.length)(r:k<l.length):Ret zB 215 [ptrTo y,.int .i64 i,.int .i64 k] p fun v h'=>Mo (fun c=>c=d\/c=g) p h'/\ik h' y d g cap n (sw l i k):=by
 obtain⟨X,es,c,f,G,hm,C,MI,IF⟩:=R.ex;have S:=St.init2 (M:=fun c=>c=d\/c=g) ok (o1:=.row X 1) (o2:=.map es c) G hm R.ne.2.2 (.inl rfl) (.inr rfl);have F: ¬(y=d\/y=g):=fun h=>h.elim R.ne.1 R.ne.2.1;have H:=R.row.load1 (o:=0) rfl;have r1:=R.row.load1 (o:=1) rfl;have i2:=C.ld2 G u;have k2:=C.ld2 G r;have Y:=C.len;have aa:=C.le;refine erA (n:=62) (rs:=[]) Tryz.e215 ?_;simp only [BZ];refine av (aB rfl) (q:=0) (ps:=[]) (by kernel_rfl) ?_;simp only [BZ,cls,H,u,r,i2,k2,seval];refine dM (S.store (i:=0) rfl Tryz.t322.2.1 (by intro x e;cases e) rfl rfl (by omega) ono) ?_;clear S;rintro h ⟨S,s⟩;clear s;have I:=C.set u (l.getD k default);simp only [LC,ae]at S;have j:=S.old H F;simp only [BZ,cls,r,seval];generalize lay X (i*2) _=J at S I;have ac:=I.len;refine dM (S.store (i:=0) (off:=k*2) rfl Tryz.t322.2.1 (by intro x e;cases e) rfl rfl (by omega) ono) ?_;clear S;rintro h ⟨S,s⟩;clear s;have A:=I.set (i:=k) (by rw [XL];exact r) (l.getD i default);simp only [LC,ae]at S;generalize lay J (k*2) _=t at S A;rw [set_sw]at A;clear j;have j:=S.old H F;have B:=S.old r1 F;have K:i<(sw l i k).length:=by rw [jv];exact u
 have L:k<(sw l i k).length:=by rw [jv];exact r
 have Z:=A.ld0 (S.row m0) K;have ak:=A.ld0 (S.row m0) L;simp only [BZ,seval];refine av (aB rfl) (q:=0) (ps:=[]) (by kernel_rfl) ?_;simp only [BZ,cls,j,B,u,r,Z,ak,seval];refine jo (P:=fun h' v=> ∃n a m,v=.tuple #[(f ((sw l i k).getD i default).id).getD (.int .i64 0),.int .i64 (Yn n)]/\St (fun c=>c=d\/c=g) p h' [(d,.row t 1),(g,.map a m)] []/\ ∀w,∃b,jR n w a=some b/\fg b m (fG f ((sw l i k).getD i default).id (some w))) ?_ ?_
 . obtain⟨h',n,N,_,a,m,_,O,e5⟩:=S.mentI (i:=1) (x:=(((sw l i k).getD i default).id:Int)) rfl Tryz.t187.1 Tryz.t3.1 (z:=.int .i64 0) (by kernel_rfl) MI;exact⟨h',_,N,n,a,m,rfl,O,e5⟩
 clear S Z ak j B;rintro h v ⟨s1,ad,c1,rfl,S,Q⟩;obtain⟨b,T,U⟩:=Q (.int .i64 i);simp only [BZ,cls,YJ,seval];refine dM (S.mstoreI (i:=1) rfl T) ?_;clear S;rintro h ⟨s,S⟩;clear s;simp only [LC]at S;simp only [BZ,cls,seval];refine jo (P:=fun h' v=> ∃n a m,v=.tuple #[(fG f ((sw l i k).getD i default).id (some (.int .i64 i)) ((sw l i k).getD k default).id).getD (.int .i64 0),.int .i64 (Yn n)]/\St (fun c=>c=d\/c=g) p h' [(d,.row t 1),(g,.map a m)] []/\ ∀w,∃b,jR n w a=some b/\fg b m (fG (fG f ((sw l i k).getD i default).id (some (.int .i64 i))) ((sw l i k).getD k default).id (some w))) ?_ ?_
 . obtain⟨h',n,N,_,a,m,_,O,e5⟩:=S.mentI (i:=1) (x:=(((sw l i k).getD k default).id:Int)) rfl Tryz.t187.1 Tryz.t3.1 (z:=.int .i64 0) (by kernel_rfl) U;exact⟨h',_,N,n,a,m,rfl,O,e5⟩
 clear S;rintro h v ⟨s2,af,c3,rfl,S,D⟩;obtain⟨V,E,W⟩:=D (.int .i64 k);simp only [BZ,cls,YJ,seval];refine dM (S.mstoreI (i:=1) rfl E) ?_;clear S;rintro h ⟨s,S⟩;clear s;simp only [LC]at S;simp only [BZ,seval];refine⟨S.fr,?_,⟨t,V,c3,_,S.row m0,(S.own _ m1).2,A,W,IF.swap u r⟩,R.ne⟩;rw [jv];exact S.fr.has (o:=.row _ 1) R.row F
theorem up_ok{b:Hp}(u:OZ b){d:Nat}{n:Int}(R:ik b d e j cap n l)(s:i<l.length)(y:l.length<1000000)(U:uN l i):Ret zB 213 [ptrTo d,.int .i64 i] b fun v h'=>Mo (fun c=>c=e\/c=j) b h'/\ ∃l',ik h' d e j cap n l'/\l'.Perm l/\oY l':=by
 refine erA (n:=23) (rs:=[]) Tryz.e213 ?_;simp only [BZ];refine aD (fun(i:Nat) o h=>i<l.length/\Mo (fun c=>c=e\/c=j) b h/\ ∃l',ik h d e j cap n l'/\l'.Perm l/\uN l' i/\o 0=ptrTo d/\o 1=.int .i64 i) (fun i=>i) ?_ i _ _ ?_
 . intro i w o h ⟨s,a,l',R,pm,U,r0,r1⟩;have t:=pm.length_eq;by_cases p:i=0
   . subst p;simp only [BZ,Xc,r1,seval];exact⟨a,l',R,pm,up_done U (.inl rfl)⟩
   . have x:(0:Int)<(i:Int):=(by omega);have q:am .i64 ((i:Int)-1)=((i-1:Nat):Int):=(by rw [wrap64]<;>omega);have r:am .i64 (((i-1:Nat):Int).tdiv 4)=(((i-1)/4:Nat):Int):=(by rw [X8 (by omega),show(((i-1:Nat):Int)/4)=(((i-1)/4:Nat):Int) by omega,wrap64]<;>omega);simp only [BZ,r0,r1,x,q,r,iD (n:=4) (by decide),seval];refine ar (B6 a.ok R (i:=i) (k:=(i-1)/4) (by omega) (by omega)) ?_;intro h g;replace R:=R.gr g;replace a:=a.trans (M':=NoM) g.fr (fun _ h=>h.elim);clear g;by_cases m:hlt (l'.getD i default) (l'.getD ((i-1)/4) default)
     . simp only [BZ,r0,r1,q,r,iD (n:=4) (by decide),m,seval];refine step_ret (xx a.ok R (i:=i) (k:=(i-1)/4) (by omega) (by omega)) ?_;rintro v h ⟨f,R⟩;replace a:=a.trans f (fun _ h=>.inl h);simp only [BZ,r1,q,r,iD (n:=4) (by decide),seval];exact w ((i-1)/4) _ _ (by omega) ⟨by omega,a,_,R,(xd l' (by omega) (by omega)).trans pm,up_step (by omega) U (by omega) m,by simp [ao,r0,ah]⟩
     . simp only [BZ,iD (n:=4) (by decide),m,seval];exact⟨a,l',R,pm,up_done U (.inr (yH m))⟩
 . exact⟨s,Mo.refl u,l,R,.refl _,U,by simp [ct,ah],by simp [ct,cP]⟩
theorem St.monoM(S:St NoM c h L G):St M c h L G:=
 ⟨S.fr.mono (fun _ h=>h.elim),fun p a=>⟨(S.own p a).1.imp (fun h=>h) (fun h=>h.elim),(S.own p a).2⟩,fun p a=>⟨(S.gown p a).1,fun b d=>((S.gown p a).2 b d).imp (fun h=>h) (fun h=>h.elim)⟩,S.apart⟩
theorem below_ok{a:Hp}(g:OZ a){f:Nat}:Ret zB 232 [ptrTo f,.int .i64 i] a fun v h'=>Gr a h'/\ ∃b c,v=.func (.func 240) #[] #[ptrTo b,ptrTo c]/\a.n<=b/\a.n<=c/\h'.load b 0 1=some [.int .i64 i]/\h'.load c 0 1=some [ptrTo f]:=by have S:=Si g;refine erA (n:=6) (rs:=[.tmp 4]) Tryz.e232 ?_;simp only [BZ,seval];refine ag (dU (by exact dB)) S ?_;clear S;intro h c S d;simp only [BZ,if_false,seval];refine ag (dU (by exact cE)) S ?_;clear S;intro h b S e;simp only [BZ,ab,seval];exact⟨S.gr,b,c,rfl,e,d,S.ld m0 rfl,S.ld m1 rfl⟩
theorem EL(b:OZ d){f g:Nat}{t:Addr}(k:d.load f 0 1=some [.int .i64 i])(u:d.load g 0 1=some [ptrTo o])(hs:d.load o 0 1=some [.slice (some t) n cap])(K:n<1000000)(L:i<1000000):Iter zB 240 [] [ptrTo f,ptrTo g] d (fun c=>c=f\/c=g\/c=o) ((Xb (min 4 (n-(4*i+1)))).map fun j=>[.int .i64 ((4*i+1+j:Nat):Int)]):=by
 refine xe fun C J Z Y h F s p=>?_;refine enA (n:=28) (rs:=[]) Tryz.e240 ?_;have e:=s.load b k (.inl rfl);have q:am .i64 (4*(i:Int))=((4*i:Nat):Int):=by rw [wrap64]<;>omega
 have D:am .i64 (((4*i:Nat):Int)+1)=((4*i+1:Nat):Int):=by rw [wrap64]<;>omega
 have x:am .i64 (((4*i:Nat):Int)+4)=((4*i+4:Nat):Int):=by rw [wrap64]<;>omega
 simp only [BZ,e,q,D,seval];refine aD (fun(j:Nat) l h=>j<=min 4 (n-(4*i+1))/\ ∃F,ItS d (fun c=>c=f\/c=g\/c=o) h F/\J j h F/\l 0=.func (.yield C) #[] #[]/\l 1=ptrTo f/\l 2=ptrTo g/\l 4=.int .i64 ((4*i+1+j:Nat):Int)) (fun j=>min 4 (n-(4*i+1))-j) ?_ 0 _ _ ?_
 . clear e;intro j E l h ⟨hjm,F,s,p,r0,r1,r2,r4⟩;have e:=s.load b k (.inl rfl);have z:=s.load b u (.inr (.inl rfl));have A:=s.load b hs (.inr (.inr rfl));by_cases hlt:j<min 4 (n-(4*i+1))
   . have r:((4*i+1+j:Nat):Int)<=((4*i+4:Nat):Int):=(by omega);have y:4*i+1+j<n:=(by omega);have w:am .i64 (((4*i+1+j:Nat):Int)+1)=((4*i+1+(j+1):Nat):Int):=(by rw [wrap64]<;>omega);simp only [BZ,r0,r1,r2,r4,e,z,A,q,x,r,y,aq,seval];refine iE Y s p (i:=j) (by rw [Xw,Yr hlt];rfl) ?_ ?_ ?_
     . intro B G a H _ _;simp only [BZ,r4,w,seval];exact E (j+1) _ _ (by omega) ⟨by omega,G,H,a,by simp [ao,r0,r1,ah,r2]⟩
     . intro B a _;simp only [BZ,seval];exact iP rfl ⟨rfl,.inr (.inl ⟨_,rfl,a⟩)⟩
     . intro v B a;simp only [BZ];exact cg (cy ⟨rfl,.inr (.inr ⟨_,rfl,a⟩)⟩)
   . have I:j=min 4 (n-(4*i+1)):=(by omega);have m:YQ J Z (min 4 (n-(4*i+1))) (.ret (ab [])) none h:=⟨rfl,.inl ⟨_,F,rfl,by rw [<-I];exact p⟩⟩;by_cases r:((4*i+1+j:Nat):Int)<=((4*i+4:Nat):Int)
     . have y: ¬4*i+1+j<n:=(by omega);simp only [BZ,r1,r2,r4,e,z,A,q,x,r,y,aq,seval];exact dG (cy ⟨rfl,_,rfl,by simpa using m⟩)
     . simp only [BZ,r1,r4,e,q,x,r,seval];exact dG (cy ⟨rfl,_,rfl,by simpa using m⟩)
 . exact⟨by omega,F,s,p,by simp [ao,cC,ah]⟩
theorem down_ok{z:Hp}(ok:OZ z){A C:Nat}{n:Int}(R:ik z u A C cap n l){i:Nat}(E:i<l.length\/(l=[]/\i=0))(hl:l.length<100000)(D:xn l i):Ret zB 216 [ptrTo u,.int .i64 i] z fun v h'=>Mo (fun c=>c=A\/c=C) z h'/\ ∃l',ik h' u A C cap n l'/\l'.Perm l/\oY l':=by
 have lt:=R.lt ok;have S:=Si ok;have N: ∀{L:List (Nat×Ob)},(∀c∈keys L [],z.n<=c)-> ∀c,c=u\/c=A\/c=C-> ¬c∈keys L []:=fun I c s hm=>by have:=lt c s;have:=I c hm;omega
 refine erA (n:=27) (rs:=[]) Tryz.e216 ?_;simp only [BZ,seval];refine ag ay S ?_;clear S;intro h J S Q;simp only [BZ,seval];refine au (aw S (i:=0) rfl ?_ ?_ ?_ ono) ?_
 . exact(by simp only [FA0])
 . exact(by exact jg)
 . exact zO (lbt rfl)
 clear S;rintro h ⟨S,U⟩;clear U;simp only [LC,ae,lay,Xe,Xf,seval]at S;simp only [BZ];have RR:=R.gr S.gr;replace S:=S.monoM (M:=fun c=>c=A\/c=C);refine tG (fun(i:Nat) ρ d h=> ∃(r:List Nat) (l':List Hd),d=r.map tB/\St (fun c=>c=A\/c=C) z h (dV r++[(J,.row [.func (.func 231) #[ptrTo u] #[]] 1)]) []/\(∀c∈keys (dV r++[(J,Ob.row [.func (.func 231) #[ptrTo u] #[]] 1)]) [],z.n<=c)/\
  ik h u A C cap n l'/\l'.Perm l/\xn l' i/\(i<l.length\/(l=[]/\i=0))/\ρ 0=ptrTo u/\ρ 1=.int .i64 i/\ρ 4=ptrTo J) (fun i=>l.length-i) ?_ i _ _ _ ?_
 . clear S RR R D E i;intro i ih ρ d hS ⟨r,l',hd,S0,I,R,pm,D,E,r0,r1,r4⟩;have aL:=pm.length_eq;have ad:i<1000000:=(by rcases E with E|⟨_,E⟩<;>omega);have S:=S0.base;have Rs:=R;have n0:z.n<=hS.n:=S0.fr.n;simp only [BZ,r1,seval];refine ag ay S ?_;clear S;intro h w S V;simp only [BZ,seval];refine au (aw S (i:=0) rfl ?_ ?_ ?_ ono) ?_
   . exact(by simp only [FA0])
   . exact(by exact cE)
   . exact zO (lbt rfl)
   clear S;rintro h ⟨S,U⟩;clear U;simp only [LC,ae,lay,Xe,Xf,seval]at S;simp only [BZ,r0,r1,seval];have gq:=S.fr.n;have a0:=S.key_lt (b:=w) (by simp [keys]);refine step_ret (below_ok S.ok) ?_;intro v h ⟨g,b1,b2,e,n1,n2,q1,q2⟩;replace S:=S.call g;subst e;simp only [BZ];replace R:=R.mo1 S.fr (N I);have gh:=S.fr.n;refine kH S (g:=240) (a:=#[]) (b:=#[ptrTo b1,ptrTo b2]) (by simp [bS,ao,ah]) rfl rfl ?_;intro h2 G O W a1 a2 g2;have kb: ∀c∈keys (dV r++[(J,Ob.row [.func (.func 231) #[ptrTo u] #[]] 1)]) [],c<b1/\c<b2:=fun c s=>(by have:=S0.key_lt s;have:=V;omega);generalize hB:dV r++[(J,Ob.row [.func (.func 231) #[ptrTo u] #[]] 1)]=B at S W S0 I kb;have mf:(J,Ob.row [.func (.func 231) #[ptrTo u] #[]] 1)∈B:=(by rw [<-hB];exact List.mem_append_right _ m0);obtain⟨X,hX,W⟩: ∃X:iI,X=_/\St (· ∈keys B []) hS h2 ((O,.loop X)::(G,.dfr)::(w,.row [.int .i64 (i:Nat)] 1)::B) []:=⟨_,rfl,W⟩;have R2:=R.gr g2;have ch: ∀j,j<min 4 (l'.length-(4*i+1))->4*i+1+j<l'.length/\(4*i+1+j-1)/4=i:=fun j hj=>⟨by omega,by omega⟩;have hY:Yld zB O (fun j h' F=> ∃m:Nat,St (· ∈keys B []) hS h' ((O,.loop X)::(G,.dfr)::(w,.row [.int .i64 (m:Nat)] 1)::B) []/\F=keys ((O,.loop X)::(G,.dfr)::(w,.row [.int .i64 (m:Nat)] 1)::B) []/\
    (m<l'.length\/(l'=[]/\m=i))/\hle (l'.getD m default) (l'.getD i default)/\(∀q,q<j->hle (l'.getD m default) (l'.getD (4*i+1+q) default))/\(m=i\/(0<m/\(m-1)/4=i/\hlt (l'.getD m default) (l'.getD i default)))) (fun _ _=>False) ((Xb (min 4 (l'.length-(4*i+1)))).map fun j=>[.int .i64 ((4*i+1+j:Nat):Int)]):=by
    refine⟨?_,?_,fun _ _ h=>h.elim,?_⟩
    . rintro j h F ⟨m,S,rfl,_⟩;exact⟨S.ok,fun b t=>S.key_lt t⟩
    . rintro j h F h' ⟨m,S,rfl,k⟩ g;exact⟨m,S.call g,rfl,k⟩
    . rintro j x h F hx ⟨m,S,rfl,H,k2,Y,Z⟩;have aa:j<min 4 (l'.length-(4*i+1)):=(by have:=(List.getElem?_eq_some_iff.1 hx).1;simpa using this);rw [Xw,Yr aa]at hx;cases hx;obtain⟨c1,c2⟩:=ch j aa;replace H:=H.resolve_right (by intro e;rw [e.1]at c1;simp at c1);obtain⟨X0,af⟩: ∃x,x=X:=⟨_,rfl⟩;subst hX;refine kK (S.get m0) (by rw [Tryz.e216];rfl) rfl ?_;have S1:=S;replace S:=S.base;simp only [BZ,seval];refine jP S (i:=0) rfl rfl rfl rfl rfl ?_;clear S;intro h S;simp only [LC]at S;have lf:h.load J 0 1=some [.func (.func 231) #[ptrTo u] #[]]:=S.ld (o:=0) (.tail _ (.tail _ (.tail _ mf))) rfl;simp only [BZ,r4,lf,S.ld (b:=w) (o:=0) m2 rfl,seval];have ai: ∀c∈keys ((O,Ob.loop X0)::(G,.dfr)::(w,.row [.int .i64 (m:Nat)] 1)::B) [],z.n<=c:=fun c s=>(S1.key_own s).elim (fun h=>by omega) (fun h=>I c h);clear af;have Rc:ik h u A C cap n l':=(Rs.mo1 S1.fr (N I)).mo1 S.fr (N ai);refine ar (B6 S.ok Rc c1 H) ?_;intro h g;replace S:=S.call g;clear g Rc lf;by_cases P:hlt (l'.getD (4*i+1+j) default) (l'.getD m default)
      . simp only [BZ,P,seval];refine au (aw S (i:=2) rfl ?_ ?_ ?_ ono) ?_
        . exact(by simp only [FA0])
        . exact(by exact cE)
        . exact zO (lbt rfl)
        clear S;rintro h ⟨S,U⟩;clear U;simp only [LC,ae,lay,Xe,Xf,seval]at S;simp only [BZ];refine gR S (i:=0) rfl ?_;clear S;intro h S;simp only [LC]at S;refine .inl ⟨rfl,_,⟨4*i+1+j,S1.rebase S,rfl,.inl c1,mY (vJ P) k2,fun q hq=>?_,.inr ⟨by omega,c2,?_⟩⟩,S.fr,S.key_new⟩
        . by_cases e:q=j
          . subst e;exact yu _
          . exact mY (vJ P) (Y q (by omega))
        . rcases Z with rfl|⟨_,_,Z⟩
          . exact P
          . unfold hlt at*;omega
      . simp only [BZ,P,seval];refine gR S (i:=0) rfl ?_;clear S;intro h S;simp only [LC]at S;refine .inl ⟨rfl,_,⟨m,S1.rebase S,rfl,.inl H,k2,fun q hq=>?_,Z⟩,S.fr,S.key_new⟩;by_cases e:q=j
        . subst e;exact yH P
        . exact Y q (by omega)
   refine d7 (CH (EL S.ok q1 q2 (R.row.load1 (o:=0) rfl) (by omega) ad) hY (h:=h2) (F:=keys ((O,.loop X)::(G,.dfr)::(w,.row [.int .i64 (i:Nat)] 1)::B) []) g2.fr (fun b t hlt=>?_) ⟨i,W,rfl,?_,yu _,fun q hq=>by omega,.inl rfl⟩) fun o rc h' y=>qR y ?_
   . have e1:=W.key_own t;rintro(rfl|rfl|rfl)
     . rcases List.mem_cons.1 t with e|t
       . omega
       . rcases List.mem_cons.1 t with e|t
         . omega
         . rcases List.mem_cons.1 t with e|t
           . simp only []at e;omega
           . have:=(kb _ t).1;omega
     . rcases List.mem_cons.1 t with e|t
       . omega
       . rcases List.mem_cons.1 t with e|t
         . omega
         . rcases List.mem_cons.1 t with e|t
           . simp only []at e;omega
           . have:=(kb _ t).2;omega
     . have:=lt b (.inl rfl);rcases e1 with e1|e1
       . omega
       . have:=I b e1;omega
   . rcases E with E|⟨E,_⟩
     . exact .inl (by omega)
     . right;rw [E]at pm;exact⟨pm.eq_nil,rfl⟩
   . rintro F ⟨m,T,rfl,H,k2,Y,Z⟩;rw [List.length_map,List.length_range]at Y;subst hX;refine⟨_,T.get m0,Nat.zero_ne_one,?_⟩;replace T:=T.dead;show Run _ _ _ _ _ _ _ _;have p:=T.ld (b:=w) (o:=0) m1 rfl;have Rc:ik _ u A C cap n l':=Rs.mo1 T.fr (N I);have km: ∀q,0<q->q<l'.length->(q-1)/4=i->hle (l'.getD m default) (l'.getD q default):=fun q q0 ql qe=>(by have:=Y (q-(4*i+1)) (by omega);rwa [show 4*i+1+(q-(4*i+1))=q by omega]at this);have T0:=S0.rebase T;have ac: ∀c∈keys ((G,Ob.dfr)::(w,.row [.int .i64 (m:Nat)] 1)::B) [],z.n<=c:=fun c s=>(T.key_own s).elim (fun h=>by omega) (fun h=>I c h);subst hd hB;have T2:=T0.sub (L':=dV (G::r)++[(J,Ob.row [.func (.func 231) #[ptrTo u] #[]] 1)]) (G':=[]) (List.Sublist.cons_cons _ (List.sublist_cons_self _ _)) (List.Sublist.refl _);have K: ∀c∈keys (dV (G::r)++[(J,Ob.row [.func (.func 231) #[ptrTo u] #[]] 1)]) [],z.n<=c:=fun c s=>ac c (by simp only [keys,Yt,Xv,dV,XM,Yj,XQ]at s⊢;rcases s with h|h;exact .inl h;exact .inr (.inr h));by_cases e:m=i
     . subst e;simp only [BZ,r1,p,seval];have T3:=T2.base;refine ig (ib (G::r) _ T3 fun h' T4=>⟨rfl,_,rfl,?_⟩);refine⟨(T2.fr.trans T4.fr fun c s=>(T2.key_own s).symm),l',Rc.mo1 T4.fr (N K),pm,dn_done D km⟩
     . have e': ¬((m:Int)=(i:Int)):=(by omega);obtain⟨b0,be,ak⟩:=Z.resolve_left e;replace H:=H.resolve_right (fun h=>e h.2);simp only [BZ,r0,r1,p,e',seval];refine step_ret (xx T2.ok Rc (i:=i) (k:=m) (by omega) H) ?_;rintro v h ⟨f,Rn⟩;have al:=N K;have T3:=T2.step f (fun c s=>.inl s) (fun c s hM=>al c (.inr hM) s);have f2:Mo (fun c=>c=A\/c=C) _ h:=f;have an:h.load w 0 1=some [.int .i64 (m:Nat)]:=(by have a3:z.n<=w:=ac w (.tail _ m0);have:=f.get w (bU f.ok0 p) (fun hM=>by have:=lt w (.inr hM);omega);unfold Hp.load at p⊢;rw [this];exact p);simp only [BZ,an,seval];exact ih m _ _ _ (by omega) ⟨G::r,_,rfl,T3,K,Rn,(xd l' (by omega) H).trans pm,dn_step D b0 H be ak km,.inl (by omega),by simp [ao,r0,ah,r4]⟩
 . exact⟨[],l,rfl,S,fun c s=>by simp [keys,dV]at s;subst s;exact Q,RR,.refl _,D,E,by simp [ao,ct,ah,cP]⟩
theorem mX.push{f:Int->Option Value}(h:mX f l){x:Hd}(c:x.id∉l.map Hd.id):mX (fG f x.id (some (.int .i64 l.length))) (l++[x]):=by
 refine⟨fun i b=>?_,fun y v a=>?_⟩
 . unfold fG;simp at b;by_cases e:i=l.length
   . grind
   . rw [qB l _ (by omega),if_neg ?_]
     . exact h.1 i (by omega)
     grind
 . unfold fG at a;by_cases e:y=x.id
   . refine⟨l.length,by simp,?_⟩;grind
   . rw [if_neg e]at a;obtain⟨i,b,d⟩:=h.2 y v a;exact⟨i,by simp;omega,by grind⟩
theorem mX.cut{f:Int->Option Value}(h:mX f l)(c:l.length=m+1):mX (fG f (l.getD m default).id none) (l.take m):=by
 refine⟨fun i b=>?_,fun y v a=>?_⟩
 . rw [Xn]at b;rw [getD_take l (by omega)];unfold fG;rw [if_neg ?_]
   . exact h.1 i (by omega)
   . intro e;have:=h.inj (i:=i) (j:=m) (by omega) (by omega) (by omega);omega
 . unfold fG at a;by_cases e:y=(l.getD m default).id
   . grind
   . rw [if_neg e]at a;obtain⟨i,b,d⟩:=h.2 y v a;have:i≠m:=fun e3=>(by grind);exact⟨i,by grind,by grind⟩
theorem mX.setKey{f:Int->Option Value}(h:mX f l)(k:Int):mX f (l.set i ⟨(l.getD i default).id,k⟩):=by
 have e: ∀j,((l.set i ⟨(l.getD i default).id,k⟩).getD j default).id=(l.getD j default).id:=fun j=>by grind
 refine⟨fun j a=>?_,fun y v b=>?_⟩
 . rw [e];exact h.1 j (by grind)
 . obtain⟨j,a,c⟩:=h.2 y v b;grind
theorem idxF_nil:mX (fun _=>none) []:=⟨fun i a=>by simp at a,fun x v h=>by cases h⟩
theorem fE.take{cs:List Value}{cap:Nat}{l:List Hd}(c:fE cs cap l)(m:Nat):fE cs cap (l.take m):=
 ⟨c.len,Xm (by grind) c.le,fun i a=>by
  rw [Xn]at a;rw [getD_take l (by omega)];exact c.at0 i (by omega)⟩
theorem fE.push{a:List Value}{cap':Nat}(c:fE cs cap l){x:Hd}(d:a.length=cap'*2)(g:l.length<cap')(b: ∀j,j<l.length*2->a[j]? =cs[j]?)(h:a[l.length*2]? =some (.int .i64 x.id)/\a[l.length*2+1]? =some (.int .i64 x.key)):fE a cap' (l++[x]):=by
 refine⟨d,by simp;omega,fun i f=>?_⟩;simp at f;by_cases e:i=l.length
 . grind
 . rw [qB l _ (by omega),b _ (by omega),b _ (by omega)];exact c.at0 i (by omega)
theorem slice_hi{t e:TypeId}{len:Nat}(c:E.und t=some (.slice e))(hs:E.sz e=some k)(d:n<=cap):cZ E t (.slice (some ⟨b,0,some k⟩) len cap) none (some (.int kd (n:Int))) none=some (.slice (some ⟨b,0,some k⟩) n cap):=by have a: ∀n:Nat,gM (n:Int)=some n:=fun n=>rfl;simp_all[cZ,dQ,fe,Xh,cond_true,Xu,cond_false,Yq]
section
variable{M:Nat->Prop}{h0 h:Hp}{L:List (Nat×Ob)}{G:List GL}{E:Env}{t tx e:TypeId}{by_:Nat}{zs:List Value}
theorem St.appH{d:Nat}(S:St M h0 h ((d,.row cs 1)::L) G)(C:fE cs cap l)(F:E.und t=some (.slice e))(H:eP E e by_ 2 zs)(Q:0<by_)(I:by_<=100)(r:fj E tx=some false){x:Hd}(f:aF h 2 z=some (1,oD x))(R:l.length<1000000){ts:List TypeId}:
 ∃h' w,dP E h (t::tx::ts) (.slice (some ⟨d,0,some 2⟩) l.length cap) z=some (h',w)/\ ∃a cap' g,w=.slice (some ⟨a,0,some 2⟩) (l.length+1) cap'/\St M h0 h' ((a,.row g 1)::L) G/\fE g cap' (l++[x])/\(a=d\/h.n<=a):=by
 obtain⟨⟨i,J,rfl,c⟩,K,s⟩:=H;have A:Row h d cs 1:=S.row m0;have B:=C.len;by_cases U:l.length+1<=cap
 . obtain⟨y,V,N⟩:=A.store S.ok ono (o:=l.length*2) (vs:=oD x) (by rw [mM];omega) rfl;refine⟨h.put d y,_,?_,d,cap,_,rfl,S.put (i:=0) rfl N,?_,.inl rfl⟩
   . simp_all[dP,lC,ie,Xh,cond_true,oD,Xj]
   . refine C.push (by grind[rP,mM]) (by omega) (fun j O=>?_) ⟨?_,?_⟩
     . rw [lH (by rw [mM];omega),if_neg (by omega)]
     . rw [lH (by rw [mM];omega),if_pos ⟨Xz _,by rw [mM];omega⟩,YO];rfl
     . rw [lH (by rw [mM];omega),if_pos ⟨by omega,by rw [mM];omega⟩,YD];rfl
 . have D:cap=l.length:=(by have:=C.le;omega);obtain⟨q,W,k,m,P⟩:=A;have u:kX q cs.length 0 (l.length*2) (oD x)=some (q.pushAll cs.length (oD x),cs.length+2):=(by unfold kX;rw [show l.length*2=cs.length by omega,Yw,Yw];rfl);have T:=S.dead.new (x:=.cells (q.pushAll cs.length (oD x)) (cs.length+2) e 1) (o:=.row (cs++oD x) 1) (by
    refine⟨q.pushAll cs.length (oD x),e,?_,?_,fun n=>?_⟩
    . rw [Hp.get_new _ _ S.dead.ok,if_pos rfl,Xd];rfl
    . rw [Xd];exact Tr.sized_pushAll _ m
    grind[Tr.get_pushAll])
   refine⟨_,.slice (some ⟨h.n,0,some 2⟩) (l.length+1) (l.length+1),?_,h.n,l.length+1,_,rfl,T,?_,.inr (Xz _)⟩
   . simp only [dP,r,lC,F,J,c,f];unfold ie;have p:Ye (l.length+1) cap=false:=by
      cases r:Ye (l.length+1) cap with
      |false=>rfl|true=>exact absurd (lbt r) (by omega)
     rw [p];simp only [cond_false];have b:(Ye ((l.length+1)*(i.bytes+1)) 70368744177664&&Yf 0 i.bytes)=true:=(by have:(l.length+1)*(i.bytes+1)<=1000000*101:=Nat.mul_le_mul (by omega) (by omega);rw [Xh (by omega)];simp_all);have v:X2 zs.length i.size=true:=(by rw [s,c];rfl);rw [b,K];simp only [cond_true,v];unfold qx;simp only [k,c,u];rfl
   . refine C.push (by rw [Xd,mM];omega) (by omega) (fun j O=>?_) ⟨?_,?_⟩
     . grind
     . rw [Xs (by omega),show l.length*2-cs.length=0 by omega];rfl
     . rw [Xs (by omega),show l.length*2+1-cs.length=1 by omega];rfl
theorem St.appH0(S:St M h0 h L G)(n:E.und t=some (.slice e))(p:eP E e by_ 2 zs)(u:0<by_)(q:by_<=100)(r:fj E tx=some false){x:Hd}{m:Value}(d:aF h 2 m=some (1,oD x)){ts:List TypeId}:
 ∃h' w,dP E h (t::tx::ts) (.slice none 0 0) m=some (h',w)/\ ∃b cap' f,w=.slice (some ⟨b,0,some 2⟩) 1 cap'/\St M h0 h' ((b,.row f 1)::L) G/\fE f cap' [x]/\h.n<=b:=by
 obtain⟨⟨i,j,rfl,c⟩,s,k⟩:=p;have T:=S.new (x:=.cells (Tr.ofList (oD x)) 2 e 1) (o:=.row (oD x) 1) (qm S.ok (oD x) e 1);refine⟨_,.slice (some ⟨h.n,0,some 2⟩) 1 1,?_,h.n,1,_,rfl,T,⟨rfl,by simp,fun i j=>?_⟩,Xz _⟩
 . simp only [dP,r,lC,n,j,c,d];unfold ie;have g:Ye (0+1) 0=false:=rfl;rw [g];simp only [cond_false];have a:(Ye ((0+1)*(i.bytes+1)) 70368744177664&&Yf 0 i.bytes)=true:=(by rw [Xh (by omega)];simp_all);have l:X2 zs.length i.size=true:=(by rw [k,c];rfl);rw [a,s];simp only [cond_true,l];unfold qx;rw [show X2 0 0=true from rfl,c];rfl
 . have:i=0:=(by simpa using j);subst this;exact⟨rfl,rfl⟩
theorem St.rowS{d c:Nat}{N:Int}{g:List (Value×Value×Nat)}{f:Int->Option Value}(S:St M h0 h [(b,.row cs 1),(i,.row [.slice (some ⟨b,0,some 2⟩) n cap,.map (some d),.int .i64 N] 1),(d,.map g c)] [])(C:fE cs cap l)(j:n=l.length)(k:fg g c f)(m:mX f l):ik h i b d cap N l:=by subst j;have a:=S.apart;simp only [keys,XM,Yv,Yt,Xv,Yd,XQ,X4,or_false,not_or]at a;exact⟨S.row m1,⟨cs,g,c,f,S.row m0,(S.own _ m2).2,C,k,m⟩,fun e=>a.1.1 e.symm,a.2.1,a.1.2⟩
end
theorem rQ{b:Bool}{t:TypeId}{a v:Operand}:dr ρ b (.store t a v) h h'=(match ρ a with| .pointer (some a)=>some (.blk a.block)|_=>none):=by simp only [dr,ef,mU,ic,touch,cond_false];grind
theorem sI{b:Bool}{x:Operand}{ts:Array TypeId}:dr ρ b (.call ⟨.builtin .len,#[x],ts⟩) h h'=(match ρ x with| .map (some r)=>some (.blk r)| .slice (some a) _ _=>some (.blk a.block)|_=>none):=by simp only [dr,ef,mU,ic,touch,cond_false];grind
theorem dn_del{Q:dW}{a:List Oper}{q:Nat}{o:Oper}{k:List Fr}{l:Loc}{c:Hp->List (Nat×Tch)}{t:TypeId}{m b:Value}{P:Hp->Prop}(d: ∃h',oZ E h t m b=some h'/\P h')(f: ∀h',P h'->Run E (lim E) cx Q (.opsD a q ps os (i+1) (c h')::k) .normal (l.put o.dst (.tuple #[])) h'):DN E cx Q a q ps o os i k l c (delR E h t m b):=by
 obtain⟨h',e,g⟩:=d;unfold delR;rw [e];exact f h' g
structure fD(h:Hp)(F:List Nat)(p:Value)(N:Nat)(K:Nat->Option Int):Prop where
 ex: ∃bh bm l,p=ptrTo bh/\oY l/\jq l K/\(∀x∈l,x.id<N)/\
  ((l=[]/\F=[bh,bm]/\bh≠bm/\Row h bh [.slice none 0 0,.map (some bm),.int .i64 N] 1/\ ∃es c,h.get bm=some (.map es c)/\fg es c (fun _=>none))\/ ∃bl cap,F=[bh,bl,bm]/\ik h bh bl bm cap N l)
theorem fD.mo{M:Nat->Prop}{h h':Hp}{F:List Nat}{p:Value}{N:Nat}{K:Nat->Option Int}(a:fD h F p N K)(g:Mo M h h')(d: ∀b∈F,¬M b):fD h' F p N K:=by
 obtain⟨j,m,l,e,n,q,r,s⟩:=a.ex;refine⟨j,m,l,e,n,q,r,?_⟩;rcases s with⟨t,rfl,u,v,i,c,w,x⟩|⟨y,f,rfl,k⟩
 . exact .inl ⟨t,rfl,u,g.has (o:=.row _ 1) v (d _ (by simp)),i,c,g.has (o:=.map i c) w (d _ (by simp)),x⟩
 . exact .inr ⟨y,f,rfl,k.mo g (d _ (by simp)) (d _ (by simp)) (d _ (by simp))⟩
theorem fD.gr(a:fD h F p N K)(g:Gr h h'):fD h' F p N K:=a.mo (M:=NoM) g.fr (fun _ _ h=>h)
theorem fD.lt{h:Hp}(f:OZ h){F:List Nat}{p:Value}{N:Nat}{K:Nat->Option Int}(a:fD h F p N K): ∀b∈F,b<h.n:=by
 obtain⟨n,o,l,e,q,r,s,g⟩:=a.ex;rcases g with⟨t,rfl,u,i,v,c,j,w⟩|⟨x,m,rfl,k⟩
 . intro b d;simp at d;rcases d with rfl|rfl
   . exact i.lt f
   . exact jO f j
 . intro b d;simp at d;exact k.lt f b d
theorem yf(h:jq l K)(a: ∀x∈l,x.id<N):l.length<=N:=by have:=yl N (l.map Hd.id) h.1 (fun x b=>by grind);simpa using this
theorem EX{a:Hp}(l:OZ a):Ret zB 173 [.int .i64 N] a fun v h'=>Gr a h'/\ ∃F,fD h' F v N (fun _=>none)/\ ∀b∈F,a.n<=b:=by
 have S:=Si l;have m:max (N:Int) 0=(N:Int):=by omega
 refine erA (n:=9) (rs:=[.tmp 2]) Tryz.e173 ?_;simp only [BZ];refine ag xj S ?_;clear S;intro h g S d;simp only [BZ,m,seval];refine ag (bK (by intro x e;cases e)) S ?_;clear S;intro h b S f;simp only [ae]at S;simp only [BZ,ab,seval];have i:=S.apart;simp only [keys,XM,Yv,Yt,Xv,Yd,XQ,X4,or_false]at i;refine⟨S.gr,[b,g],⟨b,g,[],rfl,fun j _ o=>(by simp at o),cont_nil,fun x p=>(by cases p),.inl ⟨rfl,rfl,i.1,S.row m0,[],0,(S.own _ m1).2,yz⟩⟩,fun c k=>?_⟩;simp at k;rcases k with rfl|rfl
 . exact f
 . exact d
section
variable{h0:Hp}{F:List Nat}{p:Value}{N:Nat}{K:Nat->Option Int}
theorem zw(f:OZ h0)(H:fD h0 F p N K): ∃m:Nat,cj zB 214 [p] h0 (.int .i64 m)/\(m=0↔ ∀v,K v=none):=by
 obtain⟨g,q,l,rfl,r,d,s,h⟩:=H.ex;refine⟨l.length,?_,?_⟩
 . have S:=Si f;obtain⟨a,n,c,m1,m2,b,i⟩: ∃a n c m1 m2,Row h0 g [.slice a n c,m1,m2] 1/\n=l.length:=by
    rcases h with⟨rfl,_,_,b,_⟩|⟨t,j,_,b⟩
    . exact⟨_,_,_,_,_,b,rfl⟩
    . exact⟨_,_,_,_,_,b.row,rfl⟩
   subst i;have k:=b.load1 (o:=0) rfl;refine erA (n:=11) (rs:=[.tmp 2]) Tryz.e214 ?_;simp only [BZ,ab,k,seval];exact S.gr
 . constructor
   . intro e;rw [List.length_eq_zero_iff.1 e]at d;exact d.nil
   . intro e;cases l with
     |nil=>rfl| cons x l=>
       have:=(d.2 x.id x.key).2 (by simp);rw [e]at this;cases this
theorem EG(y:OZ h0)(H:fD h0 F p N K){v:Nat}:cj zB 218 [p,.int .i64 v] h0 (.tuple #[.int .i64 ((K v).getD 0),.bool (K v).isSome]):=by
 have S:=Si y;obtain⟨m,a,A⟩:=zw y H;obtain⟨O,P,l,rfl,Q,r,T,I⟩:=H.ex;by_cases b:m=0
 . subst b;have e:=A.1 rfl v;rw [e];refine erA (n:=32) (rs:=[.tmp 4,.tmp 5]) Tryz.e218 ?_;simp only [BZ,seval];refine ar (a) ?_;intro h g;replace S:=S.call g;simp only [BZ,ab,Xc,seval];exact⟨rfl,S.gr⟩
 . have d: ¬((m:Int)=0):=(by omega);rcases I with⟨rfl,_⟩|⟨U,J,_,R⟩
   . exact absurd (A.2 r.nil) b
   . refine erA (n:=32) (rs:=[.tmp 4,.tmp 5]) Tryz.e218 ?_;simp only [BZ,seval];refine ar (a) ?_;intro h g;replace S:=S.call g;replace R:=R.gr g;clear g;obtain⟨V,W,c,f,s,t,C,L,B⟩:=R.ex;have M:=R.row.load1 (o:=0) rfl;have D:=R.row.load1 (o:=1) rfl;have q:=uG (x:=(v:Int)) Tryz.t187.1 Tryz.t3.1 (z:=.int .i64 0) (by kernel_rfl) t L;cases E:K v with
     | none=>
       have u:f v=none:=by
        cases hf:f v with
        |none=>rfl| some w=>
          obtain⟨i,j,e⟩:=B.2 v w hf;have:=r.at j;rw [show(l.getD i default).id=v by omega,E]at this;cases this
       rw [u]at q;simp only [BZ,ab,d,D,q,Yx,Xu,seval];exact S.gr
     | some k=>
       obtain⟨i,j,e⟩:=r.idx E;have u:f v=some (.int .i64 i):=(by have:=B.1 i j;rwa [e]at this);rw [u]at q;have G:=C.ld1 s j;rw [e]at G;simp only [BZ,ab,d,M,D,q,XI,j,G,seval];exact S.gr
theorem xK(ok:OZ h0)(H:fD h0 F p N K){v:Nat}(hv:v<N)(hN:N<=1000)(P:K v=none){k:Int}:Ret zB 176 [p,.int .i64 v,.int .i64 k] h0 fun r h'=>Mo (· ∈F) h0 h'/\ ∃F',fD h' F' p N (gz K v (some k))/\ ∀b∈F',b∈F\/h0.n<=b:=by
 obtain⟨a,s,l,rfl,ho,m,hlt,D⟩:=H.ex;have ac:=yf m hlt;have c1: ¬((v:Int)<0):=by omega
 have c2: ¬((N:Int)<=(v:Int)):=by omega
 have hn:=m.free P;rcases D with⟨rfl,rfl,T,hr,U,c,g,E⟩|⟨G,u,rfl,R⟩
 . have S:=St.init2 (M:=(· ∈[a,s])) ok (o1:=.row _ 1) (o2:=.map U c) hr g T (by simp) (by simp);have Q:=uG (x:=(v:Int)) Tryz.t187.1 Tryz.t3.1 (z:=.int .i64 0) (by kernel_rfl) g E;refine erA (n:=71) (rs:=[.tmp 6]) Tryz.e176 ?_;simp only [BZ,Q,c1,c2,Yx,Xu,S.ld (b:=a) (o:=1) m0 rfl,S.ld (b:=a) (o:=2) m0 rfl,seval];refine av (aB rfl) (q:=0) (ps:=[]) (by kernel_rfl) ?_;simp only [BZ,cls,Xc,S.ld (b:=a) (o:=0) m0 rfl,S.ld (b:=a) (o:=1) m0 rfl,seval];refine dM (S.mputI (i:=1) rfl Tryz.t187.1 Tryz.t3.1 E _) ?_;clear S;rintro h ⟨_,V,c',y,S⟩;simp only [LC]at S;simp only [BZ,S.ld (b:=a) (o:=0) m0 rfl,S.ld (b:=a) (o:=1) m0 rfl,seval];refine ag (bD (by exact Tryz.t314.1) (by exact Tryz.e322E) (by decide) (by rfl)) S ?_;clear S;intro h I S J;simp only [LC,bA,bN,ae,Xl,Xj,Xa,Xp,seval]at S;simp only [BZ,S.ld (b:=a) (o:=0) m1 rfl,S.ld (b:=a) (o:=1) m1 rfl,seval];have j:aF h 2 (.slice (some ⟨I,0,none⟩) 1 1)=some (1,oD ⟨v,k⟩):=(by simp only [aF];rw [S.lds (b:=I) (o:=0) (n:=1*2) m0 (lbt rfl)];rfl);replace S:=S.drop1;refine dq (S.appH0 Tryz.t314.1 Tryz.e322E (by decide) (by decide) Tryz.t314.2.2.2.2.2 j) ?_;clear S j;rintro h w ⟨G,u,cs,rfl,S,C,W⟩;simp only [BZ,seval];refine au (aw S (i:=1) rfl ?_ ?_ ?_ ono) ?_
   . exact(by simp only [FA0])
   . exact(by exact bW)
   . exact zO (lbt rfl)
   clear S;rintro h ⟨S,X⟩;clear X;simp only [LC,ae,lay,Xe,Xf,seval]at S;simp only [BZ];refine av (aB rfl) (q:=0) (ps:=[]) (by kernel_rfl) ?_;simp only [BZ,cls,Xc,S.ld (b:=a) (o:=0) m1 rfl,S.ld (b:=a) (o:=1) m1 rfl,seval];have R:ik h a G s u N ([]++[⟨v,k⟩]):=S.rowS C rfl y (idxF_nil.push hn);have Y:am .i64 0=((0:Nat):Int):=rfl;rw [Y];refine cF (up_ok S.ok R (i:=0) (by simp) (by simp) (AT ho ⟨v,k⟩)) ?_;have d:=(S.own _ m0).1;rintro r h ⟨f,Z,R',L,A⟩;simp only [BZ,Xc,seval];refine⟨S.fr.trans f (fun c m=>?_),[a,G,s],⟨a,s,Z,rfl,A,(m.push P k).perm L,fun x D=>?_,.inr ⟨G,u,rfl,R'⟩⟩,fun b O=>?_⟩
   . rcases m with rfl|rfl
     . exact d.symm
     . exact .inl (by simp)
   . have:=L.mem_iff.1 D;simp at this;subst this;exact hv
   . simp at O;rcases O with rfl|rfl|rfl
     . exact .inl (by simp)
     . exact d.symm
     . exact .inl (by simp)
 . obtain⟨cs,U,c,f,aa,g,C,E,IF⟩:=R.ex;have S:=St.init3 (M:=(· ∈[a,G,s])) ok (o1:=.row cs 1) (o2:=.row _ 1) (o3:=.map U c) aa R.row g R.ne.1.symm R.ne.2.2 R.ne.2.1 (by simp) (by simp) (by simp);have Q:=uG (x:=(v:Int)) Tryz.t187.1 Tryz.t3.1 (z:=.int .i64 0) (by kernel_rfl) g E;have fv:f v=none:=by
    cases hf:f v with
    |none=>rfl| some w=>
      obtain⟨i,hi,e⟩:=IF.2 v w hf;have:=m.at hi;rw [show(l.getD i default).id=v by omega,P]at this;cases this
   rw [fv]at Q;refine erA (n:=71) (rs:=[.tmp 6]) Tryz.e176 ?_;simp only [BZ,Q,c1,c2,Yx,Xu,S.ld (b:=a) (o:=1) m1 rfl,S.ld (b:=a) (o:=2) m1 rfl,seval];refine av (aB rfl) (q:=0) (ps:=[]) (by kernel_rfl) ?_;simp only [BZ,cls,S.ld (b:=a) (o:=0) m1 rfl,S.ld (b:=a) (o:=1) m1 rfl,seval];refine dM (S.mputI (i:=2) rfl Tryz.t187.1 Tryz.t3.1 E _) ?_;clear S;rintro h ⟨_,V,c',y,S⟩;simp only [LC]at S;simp only [BZ,S.ld (b:=a) (o:=0) m1 rfl,S.ld (b:=a) (o:=1) m1 rfl,seval];refine ag (bD (by exact Tryz.t314.1) (by exact Tryz.e322E) (by decide) (by rfl)) S ?_;clear S;intro h I S J;simp only [LC,bA,bN,ae,Xl,Xj,Xa,Xp,seval]at S;simp only [BZ,S.ld (b:=a) (o:=0) m2 rfl,S.ld (b:=a) (o:=1) m2 rfl,seval];have j:aF h 2 (.slice (some ⟨I,0,none⟩) 1 1)=some (1,oD ⟨v,k⟩):=(by simp only [aF];rw [S.lds (b:=I) (o:=0) (n:=1*2) m0 (lbt rfl)];rfl);replace S:=S.drop1;refine dq (S.appH C Tryz.t314.1 Tryz.e322E (by decide) (by decide) Tryz.t314.2.2.2.2.2 j (by omega)) ?_;clear S j;rintro h w ⟨B,t,ad,rfl,S,C',W⟩;simp only [BZ,seval];refine au (aw S (i:=1) rfl ?_ ?_ ?_ ono) ?_
   . exact(by simp only [FA0])
   . exact(by exact bW)
   . exact zO (lbt rfl)
   clear S;rintro h ⟨S,X⟩;clear X;simp only [LC,ae,lay,Xe,Xf,seval]at S;simp only [BZ];refine av (aB rfl) (q:=0) (ps:=[]) (by kernel_rfl) ?_;have Y:am .i64 (((l.length+1:Nat):Int)-1)=((l.length:Nat):Int):=(by rw [wrap64]<;>omega);simp only [BZ,cls,Y,S.ld (b:=a) (o:=0) m1 rfl,S.ld (b:=a) (o:=1) m1 rfl,seval];have R:ik h a B s t N (l++[⟨v,k⟩]):=S.rowS C' (by simp) y (IF.push hn);refine cF (up_ok S.ok R (i:=l.length) (by simp) (by simp;omega) (AT ho ⟨v,k⟩)) ?_;have d:=(S.own _ m0).1;rintro r h ⟨f,Z,R',L,A⟩;simp only [BZ,seval];refine⟨S.fr.trans f (fun c m=>?_),[a,B,s],⟨a,s,Z,rfl,A,(m.push P k).perm L,fun x D=>?_,.inr ⟨B,t,rfl,R'⟩⟩,fun b O=>?_⟩
   . rcases m with rfl|rfl
     . exact d.symm
     . exact .inl (by simp)
   . have:=L.mem_iff.1 D;simp at this;rcases this with h|rfl
     . exact hlt x h
     . exact hv
   . simp at O;rcases O with rfl|rfl|rfl
     . exact .inl (by simp)
     . exact d.symm
     . exact .inl (by simp)
theorem BL(T:OZ h0)(H:fD h0 F p N K){v:Nat}(hN:N<=1000){t k:Int}(U:K v=some t)(hle:k<=t):Ret zB 219 [p,.int .i64 v,.int .i64 k] h0 fun r h'=>Mo (· ∈F) h0 h'/\fD h' F p N (gz K v (some k)):=by
 obtain⟨d,w,l,rfl,V,g,hlt,y⟩:=H.ex;have W:=yf g hlt;obtain⟨i,a,u⟩:=g.idx U;have X:v<N:=by have:=hlt (l.getD i default) (by rw [Xg,Xo a];exact XJ a);rwa [u]at this
 have Y: ¬((v:Int)<0):=by omega
 have Z: ¬((N:Int)<=(v:Int)):=by omega
 have c3: ¬(t<k):=by omega
 rcases y with⟨rfl,_⟩|⟨A,j,rfl,R⟩
 . simp at a
 . obtain⟨G,es,c,f,m,q,C,I,J⟩:=R.ex;have S:=St.init3 (M:=(· ∈[d,A,w])) T (o1:=.row G 1) (o2:=.row _ 1) (o3:=.map es c) m R.row q R.ne.1.symm R.ne.2.2 R.ne.2.1 (by simp) (by simp) (by simp);have L:=uG (x:=(v:Int)) Tryz.t187.1 Tryz.t3.1 (z:=.int .i64 0) (by kernel_rfl) q I;have fv:f v=some (.int .i64 i):=(by have:=J.1 i a;rwa [u]at this);rw [fv]at L;have O:=C.ld1 m a;have P:=C.len;have aa:=C.le;have ek:(l.getD i default).key=t:=(by rw [u]);have B:(l.getD i default).id=v:=(by rw [u]);rw [ek]at O;refine erA (n:=61) (rs:=[.tmp 6]) Tryz.e219 ?_;simp only [BZ,L,Y,Z,c3,a,O,XI,S.ld (b:=d) (o:=0) m1 rfl,S.ld (b:=d) (o:=1) m1 rfl,S.ld (b:=d) (o:=2) m1 rfl,seval];refine au (S.store (i:=0) (off:=i*2+1) rfl Tryz.t2.2.2.1 (by intro x e;cases e) rfl rfl (by omega) ono) ?_;clear S;rintro h ⟨S,_⟩;simp only [LC,ae]at S;have Q:=C.setKey a k;generalize lay G (i*2+1) _=ac at S Q;simp only [BZ,S.ld (b:=d) (o:=0) m1 rfl,S.ld (b:=d) (o:=1) m1 rfl,seval];have R1:ik h d A w j N (l.set i ⟨(l.getD i default).id,k⟩):=S.rowS Q (by rw [XL]) I (J.setKey k);refine step_ret (up_ok S.ok R1 (i:=i) (by rw [XL];exact a) (by rw [XL];omega) (Ev V (by unfold Ab.hle;simp only [];omega))) ?_;rintro r h ⟨f,l',R',D,E⟩;simp only [BZ,seval];have s:=g.lower a k;rw [B]at s;refine⟨S.fr.trans f (fun c g=>?_),⟨d,w,l',rfl,E,(by rw [B]at D;exact s.perm D),fun x y=>?_,.inr ⟨A,j,rfl,R'⟩⟩⟩
   . rcases g with rfl|rfl<;>exact .inl (by simp)
   . have:=D.mem_iff.1 y;rcases List.mem_or_eq_of_mem_set this with h|rfl
     . exact hlt x h
     . rw [B];exact X
end
section
variable{h0:Hp}{F:List Nat}{p:Value}{N:Nat}{K:Nat->Option Int}
theorem EP(ok:OZ h0)(H:fD h0 F p N K)(hN:N<=1000):Ret zB 177 [p] h0 fun r h'=>(r=.tuple #[.int .i64 0,.int .i64 0,.bool false]/\(∀v,K v=none)/\Gr h0 h')\/ ∃v k,r=.tuple #[.int .i64 (v:Nat),.int .i64 k,.bool true]/\K v=some k/\(∀u k',K u=some k'->k<k'\/(k=k'/\v<=u))/\Mo (· ∈F) h0 h'/\fD h' F p N (gz K v none):=by
 obtain⟨m,B,O⟩:=zw ok H;obtain⟨d,D,l,rfl,ho,t,hlt,hx⟩:=H.ex;have an:=yf t hlt;by_cases E:m=0
 . subst E;have S:=Si ok;refine erA (n:=55) (rs:=[.tmp 2,.tmp 3,.tmp 4]) Tryz.e177 ?_;simp only [BZ,seval];refine ar (B) ?_;intro h g;replace S:=S.call g;simp only [BZ,ab,Xc,seval];exact .inl ⟨O.1 rfl,S.gr⟩
 . have aa: ¬((m:Int)=0):=(by omega);rcases hx with⟨rfl,_⟩|⟨y,cap,rfl,R⟩
   . exact absurd (O.2 t.nil) E
   . have a:0<l.length:=by
      cases l with
      |nil=>exact absurd (O.2 t.nil) E|cons x l=>simp
     have S:=Si ok;refine erA (n:=55) (rs:=[.tmp 2,.tmp 3,.tmp 4]) Tryz.e177 ?_;simp only [BZ,seval];refine ar (B) ?_;intro h g;replace S:=S.call g;replace R:=R.gr g;clear g;have g0:=S.gr;clear S;obtain⟨cs,es,c,f,z,G,C,MI,IF⟩:=R.ex;have r0:=R.row.load1 (o:=0) rfl;have l2:=C.ld2 z a;have S:=Si g0.ok;have i0:i7 (.int .i64 0) l.length=some 0:=ey (i:=0) a;have w1:am .i64 ((l.length:Int)-1)=((l.length-1:Nat):Int):=(by rw [wrap64]<;>omega);simp only [BZ,aa,seval];refine av (Bb (ord:=[14,0,1,2,3,4,5,6,7,8,9,10,11,12,13,15,16]) rfl rfl (by simp only [gQ,reix,hU,YB,YC,List.map_toArray,XM,Yv,cond_true,cond_false,seval];exact rfl)) (q:=1) (ps:=[(13,15),(12,15)]) (by kernel_rfl) ?_;simp only [BZ,cls,seval];refine dR ay S ?_;clear S;intro h s S ak al;simp only [BZ,cls,S.old r0 (fun h=>h),S.old l2 (fun h=>h),i0,w1,seval];refine dM (stA S (i:=0) Tryz.t316.2.1) ?_;clear S;rintro h ⟨S,mo⟩;clear mo;simp only [LC,ae,lay,Xe,Xf,seval]at S;simp only [BZ,cls,S.old r0 (fun h=>h),S.old l2 (fun h=>h),seval];have g1:=S.gr;have R1:=R.gr g1;have Y:=S.lds (b:=s) (o:=0) (n:=2) m0 (lbt rfl);have A:=R.lt g0.ok;have nb:s≠d:=fun e=>(by have:=A d (.inl rfl);omega);have P:s≠y:=fun e=>(by have:=A y (.inr (.inl rfl));omega);refine⟨by simp only [aR,aZ,aM,bo,aP,ne_eq,not_false_eq_true,bj,bH,aQ,aO,bS,cq,az,XH,ah,rQ,sI,iu nb,iu nb.symm,iu P,iu P.symm,seval],?_⟩;have sw:Ret zB 215 [ptrTo d,.int .i64 0,.int .i64 ((l.length-1:Nat):Int)] _ _:=xx S.ok R1 (i:=0) (k:=l.length-1) a (by omega);refine step_ret sw ?_
     --refine step_ret (xx S.ok R1 (i := 0) (k := l.length - 1) a (by omega)) ?_
     rintro r I ⟨Z,L⟩;have gg:Gr h0 h:=g0.trans g1;have mA:Mo (· ∈[d,y,D]) h0 I:=(gg.fr (M:=(· ∈[d,y,D]))).trans Z (fun c t=>.inl (by rcases t with rfl|rfl<;>simp));have J:I.load s 0 2=some [.int .i64 (l.getD 0 default).id,.int .i64 (l.getD 0 default).key]:=(by have:=Z.get s (bU Z.ok0 Y) (fun hM=>by have:=A s (.inr hM);omega);unfold Hp.load at Y⊢;rw [this];exact Y);have aL:=L.lt mA.ok;have ac:=mA.ok;have Q:=bU mA.ok J;clear S R R1 Z sw z G C MI IF Y l2 r0;obtain⟨cs,es,c,f,z,G,C,MI,IF⟩:=L.ex;have S:=St.init3 (M:=(· ∈[d,y,D])) (h:=I) ac (o1:=.row cs 1) (o2:=.row _ 1) (o3:=.map es c) z L.row G L.ne.1.symm L.ne.2.2 L.ne.2.1 (by simp) (by simp) (by simp);have sl:=slice_hi (kd:=.i64) (b:=y) (len:=(sw l 0 (l.length-1)).length) (n:=l.length-1) Tryz.t314.1 Tryz.t322.2.1 (cap:=cap) (by have:=C.le;rw [jv]at this;omega);simp only [BZ,XA,XX,sl,S.ld (b:=d) (o:=0) m1 rfl,S.ld (b:=d) (o:=1) m1 rfl,seval];refine au (aw S (i:=1) rfl ?_ ?_ ?_ ono) ?_
     . exact(by simp only [FA0])
     . exact(by exact bW)
     . exact zO (lbt rfl)
     clear S;rintro h ⟨S,mo⟩;clear mo;simp only [LC,ae,lay,Xe,Xf,seval]at S;simp only [BZ,S.ld (b:=d) (o:=0) m1 rfl,S.ld (b:=d) (o:=1) m1 rfl];refine av (aB rfl) (q:=0) (ps:=[]) (by kernel_rfl) ?_;have T: ¬s∈[d,y,D]:=fun O=>(by have:=A s (by simpa using O);omega);have U:I.load s 0 1=some [.int .i64 (l.getD 0 default).id]:=(by have:=dz J (i:=0) (m:=1) (by omega);simpa using this);have ad:I.load s 1 1=some [.int .i64 (l.getD 0 default).key]:=(by have:=dz J (i:=1) (m:=1) (by omega);simpa using this);simp only [BZ,cls,S.old U T,S.ld (b:=d) (o:=1) m1 rfl,seval];refine dn_del (S.mdelI (i:=2) rfl Tryz.t187.1 Tryz.t3.1 MI) ?_;clear S;rintro h ⟨_,a0,c',af,S⟩;simp only [LC]at S;simp only [BZ,seval];have V:(sw l 0 (l.length-1)).length=l.length:=jv _ _ _;have w:=j9 l (i:=0) (k:=l.length-1) a (by omega) (l.length-1);rw [if_pos rfl]at w;have W:=IF.cut (m:=l.length-1) (by omega);rw [w]at W;have tl:((sw l 0 (l.length-1)).take (l.length-1)).length=l.length-1:=(by rw [Xn,V];omega);have R3:ik h d y D cap N ((sw l 0 (l.length-1)).take (l.length-1)):=S.rowS (C.take _) tl.symm af W;have dn:Ret zB 216 [ptrTo d,.int .i64 0] h _:=down_ok S.ok R3 (i:=0) (by
      by_cases e:l.length-1=0
      . exact .inr ⟨List.length_eq_zero_iff.1 (by rw [tl,e]),rfl⟩
      . exact .inl (by omega)) (by omega) (heap_pop ho a)
     refine step_ret dn ?_;rintro r h ⟨fB,l',R',pm,ai⟩;have mB:Mo (· ∈[d,y,D]) I h:=S.fr.trans fB (fun c t=>.inl (by rcases t with rfl|rfl<;>simp));have X: ∀{o x},I.load s o 1=some x->h.load s o 1=some x:=fun e=>(by have:=mB.get s Q T;unfold Hp.load at e⊢;rw [this];exact e);simp only [BZ];refine av (aB rfl) (q:=0) (ps:=[]) (by kernel_rfl) ?_;simp only [BZ,cls,ab,X U,X ad,seval];refine .inr ⟨(l.getD 0 default).id,(l.getD 0 default).key,rfl,t.at a,fun u k' hu=>?_,mA.trans mB (fun c t=>.inl t),⟨d,D,l',rfl,ai,(t.pop a).perm pm,fun x hx=>?_,.inr ⟨y,cap,rfl,R'⟩⟩⟩
     . obtain⟨j,hj,e⟩:=t.idx hu;have:=heap_min ho j hj;rw [e]at this;unfold Ab.hle at this;simp only []at this;omega
     . exact hlt x ((xd l a (by omega)).mem_iff.1 (List.mem_of_mem_take (pm.mem_iff.1 hx)))
end
def vb(E:Env)(g:FuncId)(a post:List Value)(c:Hp)(D:Nat->Prop)(xs:List (List Value)):Prop:=
 ∀b J Z,(∀v h,¬Z (.pan v) h)->Yld E b J Z xs-> ∀h F,ItS c D h F->J 0 h F->dE E g (a++[.func (.yield b) #[] #[]]++post) none h (YQ J Z xs.length)
theorem iter_useN{g:FuncId}{a post:List Value}{xs:List (List Value)}(H:vb E g a post c D xs){d:Nat}{Z:Out->Hp->Prop}(j: ∀v h,¬Z (.pan v) h)(Y:Yld E d J Z xs)(e:Mo (fun b=> ¬D b) c h)(k: ∀b∈F,b<c.n-> ¬D b)(i:J 0 h F):dE E g (a++[.func (.yield d) #[] #[]]++post) none h (YQ J Z xs.length):=
 H d J Z j Y h F ⟨e.ok,e.n,fun b f l=>e.get b f (fun m=>m l),fun b f h=>k b f h.1 h.2,(Y.lt 0 h F i).2⟩ i
theorem dn_yield{Q:dW}{a:List Oper}{q:Nat}{o:Oper}{k:List Fr}{l:Loc}{d:Hp->List (Nat×Tch)}{e:Hp}{f:Nat}{Z:Out->Hp->Prop}{xs:List (List Value)}{x:List Value}(u: ∀v h,¬Z (.pan v) h)(Y:Yld E f J Z xs)(s:ItS e D h F)(g:J j h F)(m:xs[j]? =some x)(n: ∀h' F',J (j+1) h' F'->ItS e D h' F'->Mo (· ∈F) h h'->(∀b∈F',b∈F\/h.n<=b)->Run E (lim E) cx Q (.opsD a q ps os (i+1) (d h')::k) .normal (l.put o.dst (.bool true)) h')(k2: ∀h',Z (.ret (.bool false)) h'->OZ h'->Run E (lim E) cx Q (.opsD a q ps os (i+1) (d h')::k) .normal (l.put o.dst (.bool false)) h'):DN E cx Q a q ps o os i k l d (some (.yield f x,h)):=by
 obtain⟨p,h',r,t⟩:=Y.round j x h F m g;refine⟨p,h',r,?_⟩;rcases t with⟨rfl,F',a,b,c⟩|⟨rfl,a,b⟩|⟨⟨v,rfl⟩,a⟩
 . exact n h' F' a (s.mo b c (Y.lt _ _ _ a).2) b c
 . exact k2 h' a b
 grind
def ia(h h':Hp):Prop:= ∀b,b<h.n->h'.get b=h.get b
theorem ia.load{h h':Hp}(a:OZ h)(g:ia h h'){b o n:Nat}{l:List Value}(e:h.load b o n=some l):h'.load b o n=some l:=by have:=g b (bU a e);grind[Hp.load]
theorem ia.row(a:OZ h)(g:ia h h'){l:List Value}(r:Row h b l md):Row h' b l md:=Row.of_get (g b (r.lt a)) r
theorem aH.keep{a:Type}{enc:a->List Value}{xs:List a}(d:OZ h)(g:ia h h')(s:aH h k enc v xs):aH h' k enc v xs:=by
 rcases s with s|⟨b,o,s,c,e,f,i⟩
 . exact .inl s
 . exact .inr ⟨b,o,s,c,e,f,g.load d i⟩
theorem iZ.keep{h h':Hp}{v:Value}{m N:Nat}{R:Nat->List Nat}(d:OZ h)(g:ia h h')(r:iZ h m v N R):iZ h' m v N R:=by
 obtain⟨e,f,j,k,l,n,o⟩:=r;exact⟨e,f,j,k,g.row d l,n,fun i p=>by
  obtain⟨w,a,b,c⟩:=o i p;exact⟨w,a,b.keep d g,c⟩⟩
theorem cI.keep{h h':Hp}{m:Nat}{p:Value}{d:Gra}(a:OZ h)(g:ia h h')(n:cI h m p d):cI h' m p d:=by obtain⟨b,e,f,i,j,k,l,o,c,q,r,s,t⟩:=n.ex;exact⟨b,e,f,i,j,k,l,g.row a o,⟨c.X.keep a g,c.Y.keep a g,c.A.keep a g⟩,q.keep a g,r.keep a g,s,t⟩
theorem Gr.keep(g:Gr h h'):ia h h':=g.get
theorem ia.trans{a b c:Hp}(x:ia a b)(n:a.n<=b.n)(y:ia b c):ia a c:=fun i d=>(y i (Ys d n)).trans (x i d)
theorem ItS.keep{a:Hp}(s:ItS a D h F)(g:ia hq a)(n:hq.n<=a.n)(e: ∀c,c<hq.n->D c):ia hq h:=fun b d=>(s.data b (Ys d n) (e b d)).trans (g b d)
theorem nL{n:Int}(a:0<=n)(b:n<18446744073709551616):am .u64 n=n:=by obtain⟨m,rfl⟩:=Int.eq_ofNat_of_zero_le a;grind[am,hf,sgn,pw,Yf,Yg]
theorem b_andU{t:TypeId}{x y:Operand}(h:N<4294967296):bQ E .and t x y (.int .u64 (N:Int)) (.int .u64 4294967295)=some (.int .u64 (N:Int)):=by
 have a:Yf N 18446744073709551616=true:=by rw [Yg];omega
 have b:Nat.land N 4294967295=N:=by have:=Nat.and_two_pow_sub_one_eq_mod N 32;simp_all
 have e3:=nL (n:=(N:Int)) (by omega) (by omega);have c:jw .and .u64 (.ofNat N) (.ofNat 4294967295)=some (am .u64 (.ofNat (Nat.land N 4294967295))):=by simp only [jw,pw];rw [a];rfl
 show(jw .and .u64 (.ofNat N) (.ofNat 4294967295)).map _=_;grind
theorem b_shrU{t:TypeId}{x y:Operand}(h:N<4294967296):bQ E .shr t x y (.int .u64 (N:Int)) (.int kd 32)=some (.int .u64 0):=by
 have e:N/Nat.pow 2 (bif Ye 32 (bitsOf .u64)then 32 else bitsOf .u64)=0:=by show N/4294967296=0;omega
 show(pk .shr .u64 (.ofNat N) (.ofNat 32)).map _=_;show some (Value.int .u64 (.ofNat (N/Nat.pow 2 (bif Ye 32 (bitsOf .u64)then 32 else bitsOf .u64))))=_;rw [e];rfl
theorem je{a:Hp}(j:OZ a){f:Type}{enc:f->List Value}(k: ∀x,(enc x).length=1){xs:List f}(hs:aH a 1 enc v xs)(t:xs.length<1000000):Ret zB 50 [v] a fun r h'=>Gr a h'/\aH h' 1 enc r xs/\ ∀c,aA r c->a.n<=c:=by
 have S:=Si j;rcases hs with⟨rfl,rfl⟩|⟨b,o,s,c,rfl,l,m⟩
 . refine erA (n:=8) (rs:=[.tmp 2]) Tryz.e50 ?_;simp only [BZ,ab,seval];exact⟨S.gr,.inl ⟨rfl,rfl⟩,fun c d=>d.elim⟩
 . refine erA (n:=8) (rs:=[.tmp 2]) Tryz.e50 ?_;simp only [BZ,seval];refine ag (bD (by exact Tryz.t38.1) (by exact Tryz.e3E) (by decide) (by rfl)) S ?_;clear S;intro h u S i;simp only [LC,bA,bN,ae,Xl,Xj,Xa,Xp,seval]at S;simp only [BZ,seval];refine dq (S.cloneSl (enc:=enc) (xs:=[]) Tryz.t38.1 Tryz.e3E (by decide) Tryz.t38.2.2.2.2.2 (.inr ⟨b,o,s,c,rfl,l,S.old m (fun h=>h)⟩) k (by decide) (by simp only [Yb,Xj];omega) (S.row m0)) ?_;rintro h' v ⟨p,g,q,d⟩;simp only [BZ,ab,seval];refine⟨p.gr,by simpa using q,fun c h=>(d c h).elim (fun e=>by omega) (fun e=>Xm S.fr.n e)⟩
theorem dm{a:Hp}(e:OZ a){d:Gra}{f:Nat}(c:cI a f p d):cj zB 49 [p] a (.int .i64 d.nodes):=by have S:=Si e;obtain⟨b,h,i,j,k,l,rfl,r,_⟩:=c.ex;have g:=r.load1 (o:=0) rfl;refine erA (n:=10) (rs:=[.tmp 2]) Tryz.e49 ?_;simp only [BZ,ab,g,seval];exact S.gr
theorem oneArc_ok{a:Hp}(j:OZ a){A:List Arc}(f:aH a 3 cR v A)(k:i<A.length):Ret zB 220 [v,.int .i64 i] a fun r h'=>Gr a h'/\r=.tuple #[.agg ⟨cR A[i]⟩,.bool true]:=by
 have S:=Si j;have l: ¬((i:Int)<0):=by omega
 have m: ¬((A.length:Int)<=(i:Int)):=by omega
 refine erA (n:=19) (rs:=[.cell 4 81,.tmp 5]) Tryz.e220 ?_;simp only [BZ];refine ag ay S ?_;clear S;intro h p S g;obtain⟨c,o,d,e⟩:=(f.gr S.gr).ix (kd:=.i64) dD k;simp only [BZ,f.lenq,l,m,d,e,seval];refine au (stA S (i:=0) Tryz.t81.2.1) ?_;clear S;rintro h ⟨S,q⟩;clear q;simp only [LC,ae,lay,Xe,Xf,seval]at S;simp only [BZ,ab,cR];refine(bF (by decide) (by simp only [az,ah,seval];exact bz Tryz.t81.1 Tryz.t81.2.1 (S.lds (b:=p) (o:=0) (n:=3) m0 (lbt rfl)))).2 ?_;refine(dk (by decide)).2 (bV.2 ?_);exact⟨S.gr,rfl⟩
theorem Aw{a:Hp}(d:OZ a)(f:iZ a m v N R)(b:i<N):Ret zB 180 [v,.int .i64 i] a fun r h'=>Gr a h'/\ ∃w,r=.tuple #[w,.bool true]/\aH h' 1 gC w (R i):=by
 have S:=Si d;obtain⟨p,q,rfl,_,g,c,h⟩:=f;obtain⟨w,e,j,_⟩:=h i b;have k:=g.load1 e;have l: ¬((i:Int)<0):=by omega
 have o: ¬((N:Int)<=(i:Int)):=by omega
 refine erA (n:=19) (rs:=[.tmp 4,.tmp 5]) Tryz.e180 ?_;simp only [BZ,ab,l,o,b,k,seval];exact⟨S.gr,_,rfl,j⟩
theorem tM{a:Hp}(f:OZ a){d:Gra}(c:cI a j p d)(k:i<d.arcs.length):Ret zB 182 [p,.int .i64 i] a fun r h'=>Gr a h'/\r=.tuple #[.agg ⟨cR d.arcs[i]⟩,.bool true]:=by have S:=Si f;obtain⟨b,t,u,w,x,y,rfl,r,l,_⟩:=c.ex;have m:=r.load1 (o:=3) rfl;refine erA (n:=18) (rs:=[.cell 4 81,.tmp 5]) Tryz.e182 ?_;simp only [BZ];refine ag ay S ?_;clear S;intro h q S e;simp only [BZ,S.old m (fun h=>h),seval];refine step_ret (oneArc_ok S.ok (l.A.gr S.gr) k) ?_;rintro v h ⟨g,rfl⟩;replace S:=S.call g;simp only [BZ,cR,seval];refine au (stA S (i:=0) Tryz.t81.2.1) ?_;clear S;rintro h ⟨S,s⟩;clear s;simp only [LC,ae,lay,Xe,Xf,seval]at S;simp only [BZ,ab,seval];refine(bF (by decide) (by simp only [az,ah,seval];exact bz Tryz.t81.1 Tryz.t81.2.1 (S.lds (b:=q) (o:=0) (n:=3) m0 (lbt rfl)))).2 ?_;refine(dk (by decide)).2 (bV.2 ?_);exact⟨S.gr,rfl⟩
theorem netOut_ok(f:OZ d){a:Gra}(c:cI d j p a)(k:a.arcs.length<1000)(l:i<a.nodes):Ret zB 115 [p,.int .i64 i] d fun r h'=>Gr d h'/\aH h' 1 gC r (outs a.arcs Arc.s a.arcs.length i)/\ ∀c,aA r c->d.n<=c:=by have S:=Si f;obtain⟨b,u,x,y,z,A,rfl,r,B,m,C,_⟩:=c.ex;have q:=r.load1 (o:=4) rfl;refine erA (n:=20) (rs:=[.tmp 4]) Tryz.e115 ?_;simp only [BZ,q,seval];refine step_ret (Aw S.ok m l) ?_;rintro v h ⟨g,w,rfl,e⟩;replace S:=S.call g;simp only [BZ,seval];have s:=S.fr.n;have t:=sk a.arcs Arc.s a.arcs.length i;refine step_ret (je S.ok jt e (by omega)) ?_;intro v h ⟨g,e,hc⟩;replace S:=S.call g;simp only [BZ,ab,seval];exact⟨S.gr,e,fun c h=>Xm s (hc c h)⟩
theorem C9(f:OZ d){a:Gra}(c:cI d j p a)(k:a.arcs.length<1000)(l:i<a.nodes):Ret zB 113 [p,.int .i64 i] d fun r h'=>Gr d h'/\aH h' 1 gC r (outs a.arcs Arc.t a.arcs.length i)/\ ∀c,aA r c->d.n<=c:=by have S:=Si f;obtain⟨b,u,x,y,z,A,rfl,r,B,C,m,_⟩:=c.ex;have q:=r.load1 (o:=5) rfl;refine erA (n:=20) (rs:=[.tmp 4]) Tryz.e113 ?_;simp only [BZ,q,seval];refine step_ret (Aw S.ok m l) ?_;rintro v h ⟨g,w,rfl,e⟩;replace S:=S.call g;simp only [BZ,seval];have s:=S.fr.n;have t:=sk a.arcs Arc.t a.arcs.length i;refine step_ret (je S.ok jt e (by omega)) ?_;intro v h ⟨g,e,hc⟩;replace S:=S.call g;simp only [BZ,ab,seval];exact⟨S.gr,e,fun c h=>Xm s (hc c h)⟩
theorem mul64_ok{a:Hp}(c:OZ a)(j:N<1000):cj zB 230 [.int .u64 1,.int .u64 N] a (.tuple #[.int .u64 0,.int .u64 N]):=by have S:=Si c;have d: ∀{t x y},bQ zB .and t x y (.int .u64 1) (.int .u64 4294967295)=some (.int .u64 1):=b_andU (N:=1) (by decide);have e: ∀{t x y},bQ zB .and t x y (.int .u64 0) (.int .u64 4294967295)=some (.int .u64 0):=b_andU (N:=0) (by decide);have f: ∀{t x y b},bQ zB .shr t x y (.int .u64 1) (.int b 32)=some (.int .u64 0):=b_shrU (N:=1) (by decide);have g: ∀{t x y b},bQ zB .shr t x y (.int .u64 0) (.int b 32)=some (.int .u64 0):=b_shrU (N:=0) (by decide);have h:am .u64 (N:Int)=(N:Int):=nL (by omega) (by omega);have i:am .u64 0=0:=rfl;refine erA (n:=51) (rs:=[.tmp 4,.tmp 5]) Tryz.e230 ?_;simp only [BZ,ab,d,e,f,g,b_andU (N:=N) (by omega),b_shrU (N:=N) (by omega),Int.one_mul,Int.zero_mul,Int.mul_zero,Int.add_zero,h,i,seval];exact S.gr
theorem mul_ok{a:Hp}(b:OZ a)(c:N<1000):cj zB 212 [.int .u64 1,.int .u64 N] a (.tuple #[.int .u64 0,.int .u64 N]):=by have S:=Si b;refine erA (n:=30) (rs:=[.tmp 4,.tmp 5]) Tryz.e212 ?_;simp only [BZ,seval];refine ar (mul64_ok S.ok c) ?_;intro h g;replace S:=S.call g;simp only [BZ,ab,seval];exact S.gr
theorem norm_ok{a:Hp}(d:OZ a){l:List Int}(b:aH a 1 (encI .i64) v l)(j:l.length<1000):Ret zB 62 [v] a fun r h'=>Gr a h'/\aH h' 1 (encI .i64) r (norm [] l)/\ ∀c,aA r c->a.n<=c:=by
 have S:=Si d;refine erA (n:=6) (rs:=[.tmp 2]) Tryz.e62 ?_;simp only [BZ,seval];refine step_ret (namer_ok S.ok) ?_;intro v h ⟨g,bx,bm,k,n1,n2,R,hg⟩;replace S:=S.call g;replace b:=b.gr g;clear g;subst k;simp only [BZ,seval];refine step_ret (each_ok (ks:=[]) S.ok R hg b j) ?_;rintro r h ⟨f,m,o⟩;simp only [BZ,ab,seval];exact⟨(S.fr.trans f (fun i e=>.inr (by subst e;exact n2))).gr,m,fun c h=>Xm S.fr.n (o c h)⟩
theorem C6{g:Hp}(t:OZ g){u:Value}{l m:List Int}(r:aH g 1 (encI .i64) u l)(s:aH g 1 (encI .i64) v m)(B:l.length<1000000):cj zB 61 [u,v] g (.bool (decide (l=m))):=by
 have S:=Si t;by_cases a:l.length=m.length
 . have hle:((l.length:Int)=(m.length:Int)):=(by omega);refine erA (n:=26) (rs:=[.tmp 4]) Tryz.e61 ?_;simp only [BZ,r.lenq,s.lenq,hle,seval];refine aD (fun(i:Nat) j h=>i<=l.length/\l.take i=m.take i/\Gr g h/\j 0=u/\j 1=v/\j 12=.int .i64 l.length/\j 13=.int .i64 i) (fun i=>l.length-i) ?_ 0 _ _ ?_
   . clear S;intro i x j h ⟨hi,ht,S,r0,r1,r12,r13⟩;by_cases hlt:i<l.length
     . obtain⟨c,o,d,k⟩:=(r.gr S).ix (kd:=.i64) (aE .i64) hlt;obtain⟨C,D,b,e⟩:=(s.gr S).ix (kd:=.i64) (aE .i64) (a▸hlt);have w:am .i64 ((i:Int)+1)=((i+1:Nat):Int):=(by rw [wrap64]<;>omega);by_cases p:l[i]=m[i]
       . simp only [BZ,r12,r13,aq,hlt,seval];refine av (aB rfl) (q:=0) (ps:=[]) (by kernel_rfl) ?_;simp only [BZ,cls,r0,r1,r13,d,k,b,e,encI,p,w,seval];refine x (i+1) _ _ (by omega) ⟨by omega,?_,S,by simp [ao,r0,r1,r12]⟩;rw [Xk hlt,Xk (a▸hlt),ht,p]
       . have f:l≠m:=(by rintro rfl;exact p rfl);simp only [BZ,r12,r13,aq,hlt,seval];refine av (aB rfl) (q:=0) (ps:=[]) (by kernel_rfl) ?_;simp only [BZ,cls,ab,r0,r1,d,k,b,e,encI,p,f,seval];exact S
     . have y:l=m:=(by have z:l.take i=l:=XG (by omega);have A:m.take i=m:=XG (by omega);rw [z,A]at ht;exact ht);subst y;simp only [BZ,ab,r12,r13,aq,hlt,seval];exact S
   . exact⟨Xr _,rfl,Gr.refl t,by simp [ao,ct,cP,a]⟩
 . have f:l≠m:=(by rintro rfl;exact a rfl);have hle: ¬((l.length:Int)=(m.length:Int)):=(by omega);refine erA (n:=26) (rs:=[.tmp 4]) Tryz.e61 ?_;simp only [BZ,ab,r.lenq,s.lenq,hle,f,seval];exact S.gr
def gD:List Int->Int
 | []=>0|x::a=>a.foldl max x
theorem lmax_succ{l:List Int}(a:1<=i)(hlt:i<l.length):gD (l.take (i+1))=max (gD (l.take i)) l[i]:=by
 cases l with
 |nil=>cases hlt
 | cons x b=>
   obtain⟨j,rfl⟩: ∃j,i=j+1:=⟨i-1,by omega⟩;rw [XC,XC,gD,gD,List.getElem_cons_succ,Xk (by simpa using hlt),List.foldl_append];rfl
theorem lmax_one{l:List Int}(a:0<l.length):gD (l.take 1)=l[0]:=by
 cases l with
 |nil=>cases a
 |cons x b=>rfl
theorem maxInt_ok{f:Hp}(p:OZ f){l:List Int}(g:aH f 1 (encI .i64) v l)(k:1<=l.length)(t:l.length<1000000):cj zB 63 [v] f (.int .i64 (gD l)):=by
 have S:=Si p;have m: ¬((l.length:Int)<1):=by omega
 obtain⟨c,o,a,b⟩:=g.ix (kd:=.i64) (aE .i64) (i:=0) (by omega);have d:iC (some 1) v (.int .i64 0)=_:=a;have q:=lmax_one (l:=l) (by omega);generalize l[0]=x at b q;refine erA (n:=25) (rs:=[.tmp 2]) Tryz.e63 ?_;simp only [BZ,g.lenq,m,d,b,encI,seval];refine aD (fun(i:Nat) j h=>1<=i/\i<=l.length/\Gr f h/\j 0=v/\j 3=.int .i64 (gD (l.take i))/\j 4=.int .i64 i) (fun i=>l.length-i) ?_ 1 _ _ ?_
 . clear S;intro i s j h ⟨k,hi,S,r0,r3,r4⟩;by_cases hlt:i<l.length
   . obtain⟨c,o,a,b⟩:=(g.gr S).ix (kd:=.i64) (aE .i64) hlt;have w:am .i64 ((i:Int)+1)=((i+1:Nat):Int):=(by rw [wrap64]<;>omega);have r:=lmax_succ k hlt;generalize l[i]=y at b r;simp only [BZ,r0,r3,r4,(g.gr S).lenq,aq,hlt,a,b,encI,w,seval];refine s (i+1) _ _ (by omega) ⟨by omega,by omega,S,by simp [ao,r0],?_,by simp [ao]⟩;simp only [az,seval];rw [r]
   . simp only [BZ,ab,r0,r3,r4,(g.gr S).lenq,aq,hlt,seval];have e:l.take i=l:=XG (by omega);rw [e];exact⟨rfl,S⟩
 . exact⟨Xz _,k,Gr.refl p,by simp [ao,ct,q]⟩
theorem CQ(ks l:List Int):(norm ks l).length=l.length:=by
 induction l generalizing ks with
 |nil=>rfl|cons x a b=>show(norm _ a).length+1=_;rw [b];rfl
def jF(h:Hp)(n:Nat)(p:Value)(m:List Int):Prop:= ∃b v,p=ptrTo b/\Row h b [v,.int .i64 (gD m+1)] 1/\aH h 1 (encI .i64) v m/\n<=b/\ ∀c,aA v c->n<=c
theorem jF.mo{M:Nat->Prop}{h h':Hp}{n:Nat}{p:Value}{m:List Int}(c:jF h n p m)(g:Mo M h h')(a: ∀b,M b->b<n):jF h' n p m:=by obtain⟨b,v,e,r,s,f,d⟩:=c;exact⟨b,v,e,g.has (o:=.row _ 1) r (fun h=>by have:=a _ h;omega),s.mo g (fun c i j=>by have:=a _ j;have:=d c i;omega),f,d⟩
theorem jF.gr{m:List Int}(c:jF h n p m)(g:Gr h h'):jF h' n p m:=c.mo (M:=NoM) g.fr (fun _ h=>h.elim)
def mS(m:List Int):Prop:=m=[]\/norm [] m≠m\/256<gD m+1
theorem zU{j:Hp}(z:OZ j){m:List Int}(d:aH j 1 (encI .i64) v m)(A:m.length<1000)(G:0<=gD m/\gD m<=1000000):Ret zB 18 [v] j fun r h'=>Gr j h'/\((mS m/\r=.pointer none)\/(¬mS m/\jF h' j.n r m)):=by
 have S:=Si z;have H:=CQ [] m;by_cases t:m=[]
 . subst t;refine erA (n:=27) (rs:=[.tmp 2]) Tryz.e18 ?_;simp only [BZ,ab,Xc,d.lenq,seval];exact⟨S.gr,.inl (.inl rfl)⟩
 . have B:1<=m.length:=by cases m with
    |nil=>exact absurd rfl t|cons a l=>simp
   have C: ¬((m.length:Int)=0):=(by omega);refine erA (n:=27) (rs:=[.tmp 2]) Tryz.e18 ?_;simp only [BZ,d.lenq,C,seval];refine step_ret (norm_ok S.ok d A) ?_;intro v h ⟨g,sl,fr⟩;replace S:=S.call g;replace d:=d.gr g;clear g;by_cases p:norm [] m=m
   . simp only [BZ,seval];refine ar (C6 S.ok sl d (by omega)) ?_;intro h g;replace S:=S.call g;replace d:=d.gr g;clear g;simp only [BZ,p,seval];have D:=S.fr.n;refine step_ret (je S.ok (aE .i64) d (by omega)) ?_;intro u h ⟨g,i,q⟩;replace S:=S.call g;replace d:=d.gr g;clear g;have E:Fl u:=i.fl;simp only [BZ,seval];refine ar (maxInt_ok S.ok d B (by omega)) ?_;intro h g;replace S:=S.call g;replace d:=d.gr g;replace i:=i.gr g;clear g;have w:am .i64 (gD m+1)=gD m+1:=(by rw [wrap64]<;>omega);have k:=S.gr;clear S;have S:=Si k.ok;simp only [BZ,w,E,seval];refine ag (bK (by intro x e;cases e)) S ?_;clear S;intro h b S s;simp only [ae]at S;have y:=S.ld (b:=b) (o:=1) m0 rfl;by_cases f:256<gD m+1
     . simp only [BZ,ab,f,y,seval];exact⟨k.trans S.gr,.inl (.inr (.inr f))⟩
     . simp only [BZ,ab,f,y,seval];exact⟨k.trans S.gr,.inr ⟨by rintro(h|h|h)<;>contradiction,b,u,rfl,S.row m0,i.gr S.gr,Xm k.n s,fun c F=>Xm D (q c F)⟩⟩
   . simp only [BZ,seval];refine ar (C6 S.ok sl d (by omega)) ?_;intro h g;replace S:=S.call g;replace d:=d.gr g;clear g;simp only [BZ,ab,p,seval];exact⟨S.gr,.inl (.inr (.inl p))⟩
theorem pd{a:Hp}(e:OZ a){d:Gra}{f:Nat}(c:cI a f p d):cj zB 67 [p] a (.int .i64 d.arcs.length):=by have S:=Si e;obtain⟨b,i,j,k,l,m,rfl,r,g,_⟩:=c.ex;have h:=r.load1 (o:=3) rfl;refine erA (n:=11) (rs:=[.tmp 2]) Tryz.e67 ?_;simp only [BZ,ab,h,g.A.lenq,seval];exact S.gr
def oK(h:Hp)(p:Value)(m:List Int)(n:Int):Prop:=(p=.pointer none/\m=[]/\n=0)\/((∃k,jF h k p m)/\n=gD m+1)
theorem oK.gr{h h':Hp}{p:Value}{m:List Int}{n:Int}(g:Gr h h')(c:oK h p m n):oK h' p m n:=c.imp (fun h=>h) (fun⟨⟨k,h⟩,e⟩=>⟨⟨k,h.gr g⟩,e⟩)
theorem map_ok{a:Hp}(d:OZ a){m:List Int}{n:Int}(c:oK a p m n)(e:m.length<1000000):Ret zB 28 [p] a fun r h'=>Gr a h'/\aH h' 1 (encI .i64) r m:=by
 have S:=Si d;rcases c with⟨rfl,rfl,rfl⟩|⟨⟨_,b,v,rfl,r,s,_,_⟩,rfl⟩
 . refine erA (n:=10) (rs:=[.tmp 2]) Tryz.e28 ?_;simp only [BZ,ab,seval];exact⟨S.gr,.inl ⟨rfl,rfl⟩⟩
 . have f:=r.load1 (o:=0) rfl;refine erA (n:=10) (rs:=[.tmp 2]) Tryz.e28 ?_;simp only [BZ,f,seval];refine step_ret (je S.ok (aE .i64) s e) ?_;intro v h ⟨g,sl,_⟩;replace S:=S.call g;simp only [BZ,ab,seval];exact⟨S.gr,sl⟩
theorem xB{a:Hp}(d:OZ a){m:List Int}{n:Int}(c:oK a p m n):cj zB 66 [p] a (.int .i64 n):=by
 have S:=Si d;rcases c with⟨rfl,rfl,rfl⟩|⟨⟨_,b,v,rfl,r,s,_,_⟩,rfl⟩
 . refine erA (n:=9) (rs:=[.tmp 2]) Tryz.e66 ?_;simp only [BZ,ab,seval];exact S.gr
 . have e:=r.load1 (o:=1) rfl;refine erA (n:=9) (rs:=[.tmp 2]) Tryz.e66 ?_;simp only [BZ,ab,e,seval];exact S.gr
def sg(h:Hp)(p:Value)(a w:Int)(c:Bool):Prop:=(p=.pointer none/\a=0/\w=0/\c=false)\/ ∃b x y,p=ptrTo b/\Row h b [.int .i64 a,.int .i64 w,x,y] 1/\c=true
theorem sg.gr{h h':Hp}{p:Value}{a w:Int}{d:Bool}(g:Gr h h')(c:sg h p a w d):sg h' p a w d:=c.imp (fun h=>h) (fun⟨b,x,y,e,r,n⟩=>⟨b,x,y,e,r.gr g,n⟩)
theorem nQ(e:OZ d){a w:Int}{f:Bool}(c:sg d p a w f):cj zB 128 [p] d (.int .i64 a):=by
 have S:=Si e;rcases c with⟨rfl,rfl,rfl,rfl⟩|⟨b,x,y,rfl,r,rfl⟩
 . refine erA (n:=9) (rs:=[.tmp 2]) Tryz.e128 ?_;simp only [BZ,ab,seval];exact S.gr
 . have g:=r.load1 (o:=0) rfl;refine erA (n:=9) (rs:=[.tmp 2]) Tryz.e128 ?_;simp only [BZ,ab,g,seval];exact S.gr
theorem qC(e:OZ d){a w:Int}{f:Bool}(c:sg d p a w f):cj zB 129 [p] d (.int .i64 w):=by
 have S:=Si e;rcases c with⟨rfl,rfl,rfl,rfl⟩|⟨b,x,y,rfl,r,rfl⟩
 . refine erA (n:=9) (rs:=[.tmp 2]) Tryz.e129 ?_;simp only [BZ,ab,seval];exact S.gr
 . have g:=r.load1 (o:=1) rfl;refine erA (n:=9) (rs:=[.tmp 2]) Tryz.e129 ?_;simp only [BZ,ab,g,seval];exact S.gr
theorem allB_ok{b:Hp}(j:OZ b){l:List Bool}(k:aH b 1 encB v l)(p:l.length<1000):cj zB 130 [v] b (.bool (l.all id)):=by
 have S:=Si j;refine erA (n:=14) (rs:=[.tmp 2]) Tryz.e130 ?_;simp only [BZ,k.lenq,seval];refine aD (fun(i:Nat) f h=>i<=l.length/\(l.take i).all id=true/\Gr b h/\f 5=v/\f 6=.int .i64 l.length/\f 7=.int .i64 i) (fun i=>l.length-i) ?_ 0 _ _ ?_
 . clear S;intro i m f h ⟨hi,ht,S,r5,r6,r7⟩;by_cases hlt:i<l.length
   . obtain⟨c,o,a,d⟩:=(k.gr S).ix (kd:=.i64) encB_len hlt;have w:am .i64 ((i:Int)+1)=((i+1:Nat):Int):=(by rw [wrap64]<;>omega);cases g:l[i]with
     | true=>simp only [BZ,r5,r6,r7,aq,hlt,a,d,encB,g,w,seval];refine m (i+1) _ _ (by omega) ⟨by omega,?_,S,by simp [ao,r5,r6]⟩;rw [Xk hlt,List.all_append,ht,g];rfl| false=>have e:l.all id=false:=(by rw [List.all_eq_false];exact⟨_,XJ hlt,by simp [g]⟩);simp only [BZ,ab,r5,r6,r7,aq,hlt,a,d,encB,g,seval];rw [e];exact⟨rfl,S⟩
   . simp only [BZ,ab,r6,r7,aq,hlt,seval];rw [XG (by omega)]at ht;rw [ht];exact⟨rfl,S⟩
 . exact⟨Xr _,rfl,Gr.refl j,by simp [ao,ct]⟩
theorem Cl{e:Hp}(i:OZ e){b:Gra}{m:List Int}{n:Int}(c:cI e j p b)(d:oK e q m n)(l:1<=b.nodes)(k:m.length<1000000):cj zB 64 [p,q] e (.bool (decide (m.length=b.nodes))):=by
 have S:=Si i;have a:(0:Int)<(b.nodes:Int):=by omega
 have f:(b.nodes:Int)>0:=a;refine erA (n:=16) (rs:=[.tmp 4]) Tryz.e64 ?_;simp only [BZ,seval];refine ar (dm S.ok c) ?_;intro h g;replace S:=S.call g;replace c:=c.gr g;replace d:=d.gr g;clear g;simp only [BZ,a,seval];refine step_ret (map_ok S.ok d k) ?_;intro v h ⟨g,sl⟩;replace S:=S.call g;replace c:=c.gr g;replace d:=d.gr g;clear g;simp only [BZ,sl.lenq,seval];refine ar (dm S.ok c) ?_;intro h g;replace S:=S.call g;replace c:=c.gr g;replace d:=d.gr g;clear g;simp only [BZ,ab,seval];refine⟨?_,S.gr⟩;congr 1;by_cases h:m.length=b.nodes
 . simp [h]
 . have: ¬((m.length:Int)=(b.nodes:Int)):=(by omega);simp [h,this]
theorem D0{f:Hp}(t:OZ f){r:Value}{i:Gra}{m:List Int}{n a w:Int}{j:Bool}(c:cI f u p i)(d:oK f q m n)(e:sg f r a w j)(v:1<=i.nodes)(z:m.length<1000000):cj zB 72 [p,q,r] f (.bool (decide (m.length=i.nodes)&&j&&decide (a=n)&&decide (w=i.arcs.length))):=by
 have S:=Si t;have A: ∀E:Env,qs E 63=true-> ∀x y,bQ E .neq 63 x y r (.pointer none)=some (.bool j):=by
  intro E k x y;rcases e with⟨rfl,_,_,rfl⟩|⟨b,_,_,rfl,_,rfl⟩
  . exact n_pnil k
  . exact n_ptr k
 refine erA (n:=24) (rs:=[.tmp 6]) Tryz.e72 ?_;simp only [BZ,seval];refine ar (Cl S.ok c d v z) ?_;intro h g;replace S:=S.call g;replace c:=c.gr g;replace d:=d.gr g;replace e:=e.gr g;clear g;simp only [BZ,A zB Tryz.t63.2.2.2.2.1,seval];refine ar (nQ S.ok e) ?_;intro h g;replace S:=S.call g;replace c:=c.gr g;replace d:=d.gr g;replace e:=e.gr g;clear g;simp only [BZ,seval];refine ar (xB S.ok d) ?_;intro h g;replace S:=S.call g;replace c:=c.gr g;replace d:=d.gr g;replace e:=e.gr g;clear g;simp only [BZ,seval];refine ar (qC S.ok e) ?_;intro h g;replace S:=S.call g;replace c:=c.gr g;replace d:=d.gr g;replace e:=e.gr g;clear g;simp only [BZ,seval];refine ar (pd S.ok c) ?_;intro h g;replace S:=S.call g;replace c:=c.gr g;replace d:=d.gr g;replace e:=e.gr g;clear g;simp only [BZ,seval];refine ag (bD (by exact Tryz.t202.1) (by exact Tryz.e4E) (by decide) (by rfl)) S ?_;clear S;intro h B S s;simp only [LC,bA,bN,ae,Xl,Xj,Xa,Xp,seval]at S;simp only [BZ,seval];refine ar (allB_ok (l:=[decide (m.length=i.nodes),j,decide (a=n),decide (w=i.arcs.length)]) S.ok (.inr ⟨B,0,none,4,rfl,Xz _,S.lds (o:=0) (n:=4) m0 (lbt rfl)⟩) (by simp)) ?_;intro h g;replace S:=S.call g;simp only [BZ,ab,seval];exact⟨by simp [Bool.and_assoc],S.gr⟩
theorem Cz{t e:TypeId}(c:E.und t=some (.slice e))(hs:E.sz e=some 1)(d:n<N):cZ E t (.slice (some ⟨b,0,none⟩) N N) (some (.int kd (n:Int))) none none=some (.slice (some ⟨b,n,none⟩) (N-n) (N-n)):=by
 have a: ∀n:Nat,gM (n:Int)=some n:=fun n=>rfl;have f:X2 N n=false:=by
  cases h:X2 N n with
  |false=>rfl|true=>have:=Yk h;omega
 simp only [cZ,c,dQ,fe,a,Xh (Nat.le_of_lt d),cond_true,hs,Xu,cond_false,f,iR,Xa,Xj]
theorem AH{t e:TypeId}(c:E.und t=some (.slice e))(hs:E.sz e=some k)(d:n<=N):cZ E t (.slice (some ⟨b,0,none⟩) N N) none (some (.int kd (n:Int))) none=some (.slice (some ⟨b,0,none⟩) n N):=by have a: ∀n:Nat,gM (n:Int)=some n:=fun n=>rfl;simp only [cZ,c,dQ,fe,a,Xh d,cond_true,hs,Xu,cond_false,iR,Xl,Yy,Yq];cases X2 N 0<;>rfl
section
variable{M:Nat->Prop}{h0 h:Hp}{L:List (Nat×Ob)}{G:List GL}{E:Env}{t e:TypeId}
theorem St.copyO(S:St M h0 h L G){len f o2:Nat}{n c:Option Nat}{l:List Value}(g:L[i]? =some (b,.row cs 1))(p:E.und t=some (.slice e))(hs:E.sz e=some 1)(s:0<eK m len)(j:h.load f o2 (eK m len*1)=some l)(d:o+l.length<=cs.length)(hf:l.all jx=true){ts:List TypeId}:
 ∃h' w,copyV E h (t::ts) (.slice (some ⟨b,o,n⟩) len cap) (.slice (some ⟨f,o2,c⟩) m k)=some (h',w)/\w=.int .i64 (eK m len:Nat)/\St M h0 h' (L.set i (b,.row (lay cs o l) 1)) G:=by
 obtain⟨y,q,r⟩:=(S.row (zM g)).store S.ok ono (o:=o) (vs:=l) d hf;have a:=load_len j;refine⟨h.put b y,_,?_,rfl,S.put g r⟩;simp only [copyV,p,hs,j];cases l with
 |nil=>simp at a;omega|cons x u=>simp only [q];rfl
end
theorem kw(h:a<=b):eK a b=a:=by unfold eK;rw [Xh h];rfl
theorem xm(h:b<=a):eK a b=b:=by
 unfold eK;cases c:Ye a b with
 |false=>rfl|true=>have:=lbt c;show a=b;omega
theorem xz{X Z:Value}{c:Nat}(e:c<=k):lay (XV n X++XV k Z) n (XV c X)=XV (n+c) X++XV (k-c) Z:=by
 refine Xx fun j=>?_;rw [lH (by simp;omega),Yo,X6,X6,Yo,Yo,XN,XN,XN,XN,XN];by_cases a:j<n
 . rw [if_neg (by omega),if_pos a,if_pos a,if_pos (by omega),if_pos (by omega)]
 . by_cases b:j<n+c
   . rw [if_pos (by omega),if_pos (by omega),if_pos b,if_pos b]
   . rw [if_neg (by omega),if_neg a,if_neg b];by_cases d:j-n<k
     . rw [if_pos d,if_pos (by omega)]
     . rw [if_neg d,if_neg (by omega)]
theorem mE(z:Value): ∀n,bA [z] n=XV n z
 |0=>rfl|n+1=>by simp [bA,mE z n,YM]
def ClF(O:List Nat)(f:Int->Option Value):Prop:= ∀u:Nat,f (u:Int)=if u∈O then some (.int .i64 1)else none
section
variable{M:Nat->Prop}{h0 h h':Hp}{L L':List (Nat×Ob)}{G G':List GL}{Fh:List Nat}
theorem St.baseF(S:St M h0 h L G)(Fh:List Nat):St (fun c=>c∈keys L G\/c∈Fh) h h L G:=
 ⟨Mo.refl S.ok,fun p a=>⟨.inr (.inl (py a)),(S.own p a).2⟩,fun p a=>⟨(S.gown p a).1,fun b d=>.inr (.inl (nv a d))⟩,S.apart⟩
theorem St.rebaseF(S:St M h0 h L G)(e: ∀c∈Fh,h0.n<=c\/M c)(T:St (fun c=>c∈keys L G\/c∈Fh) h h' L' G'):St M h0 h' L' G':=by have f: ∀b,h.n<=b\/(b∈keys L G\/b∈Fh)->h0.n<=b\/M b:=fun b a=>a.elim (fun a=>.inl (Xm S.fr.n a)) (fun a=>a.elim S.key_own (e b));exact⟨S.fr.trans T.fr fun b a=>(a.elim S.key_own (e b)).symm,fun p d=>⟨f _ (T.own p d).1,(T.own p d).2⟩,fun p d=>⟨(T.gown p d).1,fun b a=>f b ((T.gown p d).2 b a)⟩,T.apart⟩
theorem St.callF(S:St M h0 h L G){o o':Ob}(l:L[i]? =some (b,o))(f:Mo (fun c=>c∈Fh\/c=b) h h')(m: ∀c∈Fh,(M c\/h0.n<=c)/\c∉keys L G)(r:Has h' b o'):St M h0 h' (L.set i (b,o')) G:=by
 have s:=S.own _ (zM l);have g:(keys L G)[i]? =some b:=lE l;refine⟨S.fr.trans f (fun c k=>by grind),fun p a=>?_,fun p a=>⟨(S.gown p a).1.of_get fun c k=>?_,(S.gown p a).2⟩,?_⟩
 . rcases oN a with rfl|⟨j,n,a⟩
   . grind
   . have d:=S.own p (zM a);refine⟨d.1,d.2.of_get (f.get _ (d.2.lt S.ok) fun e=>?_)⟩;rcases e with e|e
     . exact(m _ e).2 (py (zM a))
     . apply n;have q:(keys L G)[j]? =some b:=(by rw [lE a];rw [e]);exact th S.apart q g
 . refine f.get c ((S.gown p a).1.lt S.ok k) fun e=>?_;rcases e with e|e
   . exact(m _ e).2 (nv a k)
   . subst e;have d:=S.apart;unfold keys at d;rw [XT]at d;exact d.2.2 c (List.mem_map.2 ⟨_,zM l,rfl⟩) c (List.mem_filterMap.2 ⟨p,a,k⟩) rfl
 . have:keys (L.set i (b,o')) G=keys L G:=(by unfold keys;congr 1;rw [List.map_set];refine Xx fun j=>?_;grind);rw [this];exact S.apart
theorem St.stepF(S:St M h0 h L G)(f:Mo (· ∈Fh) h h')(b: ∀c∈Fh,(M c\/h0.n<=c)/\c∉keys L G):St M h0 h' L G:=
 S.step f (fun c a=>(b c a).1) (fun c a d=>(b c d).2 a)
end
theorem St.mono{M M':Nat->Prop}{d h:Hp}{L:List (Nat×Ob)}{G:List GL}(S:St M d h L G)(c: ∀b,M b->M' b):St M' d h L G:=
 ⟨S.fr.mono c,fun p a=>⟨(S.own p a).1.imp (fun h=>h) (c _),(S.own p a).2⟩,fun p a=>⟨(S.gown p a).1,fun b e=>((S.gown p a).2 b e).imp (fun h=>h) (c _)⟩,S.apart⟩
theorem Dj.exm{s:Nat}{O:List Nat}{D:Nat->Nat}{b:Arc->Prop}(d:Dj B s N O D K b)(h: ∀a∈B,b a->ex' a):Dj B s N O D K ex':=
 ⟨d.i1,d.i2,d.i2f,d.i3,fun a c e f=>d.i4 a c e (fun g=>f (h a c g)),d.i5,d.nd,d.lt⟩
def vK:Value->Option Tch
 | .map (some r)=>some (.blk r)| .slice (some a) _ _=>some (.blk a.block)|_=>none
theorem uz{b:Bool}{x y:Operand}{ts:Array TypeId}:dr ρ b (.call ⟨.builtin .append,#[x,y],ts⟩) h h'=vK (ρ x):=by simp only [dr,ef,mU,ic,touch,cond_false];cases ρ x<;>first|rfl|(rename_i x;cases x<;>rfl)|(rename_i x _ _;cases x<;>rfl)
theorem vI{x:Option Tch}:mK x none=true:=by
 cases x with
 |none=>rfl|some b=>cases b<;>rfl
theorem sK:di i []=none:=rfl
def SlW(h:Hp)(kd:IntKind)(v:Value)(xs:List Int):Prop:=(v=.slice none 0 0/\xs=[])\/ ∃b o c,v=.slice (some ⟨b,o,none⟩) xs.length c/\xs.length<=c/\h.load b o (xs.length*1)=some (xs.flatMap (encI kd))
theorem SlW.sl(s:SlW h kd v xs):aH h 1 (encI kd) v xs:=s.imp (fun h=>h) (fun⟨b,o,c,a,d,e⟩=>⟨b,o,none,c,a,d,e⟩)
theorem SlW.low{kd':IntKind}{t e:TypeId}(g:E.und t=some (.slice e))(hs:E.sz e=some 1)(s:SlW h kd v xs)(a:n<=xs.length):
 ∃v',cZ E t v none (some (.int kd' (n:Int))) none=some v'/\aH h 1 (encI kd) v' (xs.take n)/\ ∀c,aA v' c->aA v c:=by
 have f: ∀n:Nat,gM (n:Int)=some n:=fun n=>rfl;rcases s with⟨rfl,rfl⟩|⟨b,o,c,rfl,j,p⟩
 . have:n=0:=(by simpa using a);subst this;refine⟨.slice none 0 0,?_,.inl ⟨rfl,rfl⟩,fun c d=>d⟩;simp only [cZ,g,dQ,fe,f,hs];rfl
 . refine⟨.slice (some ⟨b,o,none⟩) n c,?_,.inr ⟨b,o,none,c,?_,?_,?_⟩,fun c d=>d⟩
   . simp only [cZ,g,dQ,fe,f,Xh (Xm a j),cond_true,hs,Xu,cond_false,Yq,iR,Xl,Yy];by_cases d:c=0
     . subst d;rfl
     . rw [show X2 c 0=false by cases c with|zero=>exact absurd rfl d|succ c=>rfl];rfl
   . rw [Xn,YG a]
   . rw [Xn,YG a];exact Xm a j
   . rw [Xn,YG a];have:=dz p (i:=0) (m:=n*1) (by omega);rw [Yy,Xy]at this;rw [this];congr 1;refine Xx fun i=>?_;have k: ∀l:List Int,l.flatMap (encI kd)=l.map fun x=>.int kd x:=fun l=>(by rw [X3,YN,X3];rfl);rw [k,k,Xa,List.map_take]
def iota(k:Nat):List Int:=(Xb k).map fun(i:Nat)=>(i:Int)
theorem u7(k:Nat):(iota k).length=k:=by simp [iota]
theorem vt(k:Nat):iota (k+1)=iota k++[(k:Int)]:=by simp [iota,Yp]
theorem pos_app(l:List Int)(x y:Int):pos (l++[y]) x=match pos l x with|some i=>some i|none=>if x=y then some l.length else none:=by
 induction l with
 |nil=>simp [pos]| cons z a b=>
   rw [Yj,pos,pos];by_cases h:x=z
   . rw [if_pos h,if_pos h]
   . rw [if_neg h,if_neg h,b];cases pos a x with
     |some i=>rfl|none=>by_cases c:x=y<;>simp [c]
theorem sn(k j:Nat):pos (iota k) (j:Int)=if j<k then some j else none:=by
 induction k with
 |zero=>rfl| succ k a=>
   rw [vt,pos_app,a,u7];by_cases h:j<k
   . rw [if_pos h,if_pos (show j<k+1 by omega)]
   . rw [if_neg h];by_cases b:j=k
     . subst b;simp
     . have: ¬((j:Int)=(k:Int)):=(by omega);simp only [this,if_false];rw [if_neg (by omega)]
theorem pos_lt{l:List Int}(h:pos l x=some i):i<l.length:=by
 induction l generalizing i with
 |nil=>cases h
 | cons y b c=>
   rw [pos]at h;by_cases e:x=y
   . rw [if_pos e]at h;cases h;simp
   . rw [if_neg e]at h;cases a:pos b x with
     |none=>rw [a]at h;cases h
     |some j=>rw [a]at h;cases h;have:=c a;simp;omega
theorem norm_idem(ks l:List Int):norm (iota ks.length) (norm ks l)=norm ks l:=by
 induction l generalizing ks with
 |nil=>rfl| cons x c a=>
   rw [norm,norm];unfold nZ pa;cases b:pos ks x with
   | some i=>simp only [];rw [sn,if_pos (pos_lt b)];simp only [];rw [a]| none=>simp only [];rw [sn,if_neg (by omega)];simp only [];rw [u7,<-vt];have:=a (ks++[x]);rw [Xd,Yl]at this;rw [this]
theorem norm_bd(ks l:List Int): ∀x∈norm ks l,0<=x/\x<=((ks.length+l.length:Nat):Int):=by
 induction l generalizing ks with
 |nil=>intro x a;cases a
 | cons y e b=>
   intro x a;rw [norm]at a;rcases List.mem_cons.1 a with rfl|a
   . have:nZ ks y<=ks.length:=by
      unfold nZ;cases c:pos ks y with
      |some i=>exact Nat.le_of_lt (pos_lt c)|none=>exact Xz _
     simp;omega
   . have d:=b _ x a;have:(pa ks y).length<=ks.length+1:=(by unfold pa;cases pos ks y<;>simp);simp at d⊢;omega
theorem fold_bd(K:Int)(l:List Int)(a:Int)(b:0<=a/\a<=K)(h: ∀x∈l,0<=x/\x<=K):0<=l.foldl max a/\l.foldl max a<=K:=by
 induction l generalizing a with
 |nil=>exact b| cons x e c=>
   have f:=h x (by simp);exact c (max a x) (by omega) (fun y d=>h y (by simp [d]))
theorem lmax_bd{K:Int}(a:0<=K){l:List Int}(h: ∀x∈l,0<=x/\x<=K):0<=gD l/\gD l<=K:=by
 cases l with
 |nil=>exact⟨Int.le_refl _,a⟩|cons x b=>exact fold_bd K b x (h x (by simp)) (fun y c=>h y (by simp [c]))
def scan:Nat->List Int->Option Nat
 |k,[]=>some k|k,x::a=>if x<0\/(k:Int)<x then none else if x=(k:Int)then scan (k+1) a else scan k a
theorem AO(l:List Int): ∀k,norm (iota k) l=l↔(scan k l).isSome=true:=by
 induction l with
 |nil=>intro k;simp [norm,scan]| cons x f c=>
   intro k;rw [norm,scan];by_cases a:x<0\/(k:Int)<x
   . rw [if_pos a];simp only [Xu,Bool.false_eq_true,iff_false];intro e;have b:=(List.cons.inj e).1;rcases a with h|h
     . omega
     . obtain⟨j,rfl⟩: ∃j:Nat,x=(j:Int):=⟨x.toNat,by omega⟩;unfold nZ at b;rw [sn,if_neg (by omega)]at b;simp only [u7]at b;omega
   . rw [if_neg a];obtain⟨j,rfl⟩: ∃j:Nat,x=(j:Int):=⟨x.toNat,by omega⟩;unfold nZ pa;by_cases d:(j:Int)=(k:Int)
     . have:j=k:=(by omega);subst this;rw [if_pos rfl,sn,if_neg (by omega)];simp only [u7];rw [<-vt,<-c (j+1)];exact⟨fun e=>(List.cons.inj e).2,fun e=>by rw [e]⟩
     . rw [if_neg d,sn,if_pos (by omega)];simp only [];rw [<-c k];exact⟨fun e=>(List.cons.inj e).2,fun e=>by rw [e]⟩
theorem scan_max(l:List Int): ∀k m,scan k l=some m->k<=m/\l.foldl max ((k:Int)-1)=(m:Int)-1:=by
 induction l with
 |nil=>intro k m e;cases e;exact⟨Xz _,rfl⟩
 | cons x g c=>
   intro k m e;rw [scan]at e;by_cases d:x<0\/(k:Int)<x
   . rw [if_pos d]at e;cases e
   . rw [if_neg d]at e;rw [List.foldl_cons];by_cases f:x=(k:Int)
     . rw [if_pos f]at e;obtain⟨a,b⟩:=c _ _ e;refine⟨by omega,?_⟩;rw [show max ((k:Int)-1) x=((k+1:Nat):Int)-1 by omega];exact b
     . rw [if_neg f]at e;obtain⟨a,b⟩:=c _ _ e;refine⟨a,?_⟩;rw [show max ((k:Int)-1) x=(k:Int)-1 by omega];exact b
theorem z8{l:List Int}(h:scan 0 l=none):mS l:=.inr (.inl fun e=>by
 have:=(AO l 0).1 e;rw [h]at this;cases this)
theorem B2{l:List Int}(h:scan 0 l=some k):(mS l↔k=0\/256<k)/\(k≠0->gD l+1=(k:Int)):=by
 have g:norm [] l=l:=(AO l 0).2 (by rw [h];rfl);cases l with
 |nil=>cases h;exact⟨⟨fun _=>.inl rfl,fun _=>.inl rfl⟩,fun h=>absurd rfl h⟩
 | cons x d=>
   rw [scan]at h;by_cases f:x<0\/((0:Nat):Int)<x
   . rw [if_pos f]at h;cases h
   rw [if_neg f,if_pos (by omega)]at h;obtain⟨a,b⟩:=scan_max _ _ _ h;have e:gD (x::d)+1=(k:Int):=(by have:x=((0+1:Nat):Int)-1:=(by omega);show d.foldl max x+1=(k:Int);rw [this,b];omega);refine⟨⟨fun c=>?_,fun c=>?_⟩,fun _=>e⟩
   . rcases c with c|c|c
     . cases c
     . exact absurd g c
     . omega
   . exact .inr (.inr (by omega))
theorem many23_ok{g:Hp}(t:OZ g){l:List Int}(f:aH g 1 (encI .i64) v l)(z:l.length<1000000):Ret zB 148 [v] g fun r h'=>Gr g h'/\ ∃n:Nat,r=.int .i64 n/\(n=0↔mS l)/\(n≠0->gD l+1=(n:Int))/\n<=256:=by
 have S:=Si t;refine erA (n:=35) (rs:=[.tmp 2]) Tryz.e148 ?_;simp only [BZ];refine aD (fun(i:Nat) p h=>i<=l.length/\Gr g h/\p 0=v/\ ∃k:Nat,k<=i/\scan 0 l=scan k (l.drop i)/\p 3=.int .i64 k/\p 4=.int .i64 i) (fun i=>l.length-i) ?_ 0 _ _ ?_
 . clear S;intro i u p h ⟨hi,S,r0,k,hk,hs,r3,r4⟩;have w:am .i64 ((i:Int)+1)=((i+1:Nat):Int):=(by rw [wrap64]<;>omega);have y:am .i64 ((k:Int)+1)=((k+1:Nat):Int):=(by rw [wrap64]<;>omega);by_cases hlt:i<l.length
   . obtain⟨q,o,d,e⟩:=(f.gr S).ix (kd:=.i64) (aE .i64) hlt;rw [Yc hlt,scan]at hs;simp only [encI]at e;generalize l[i]=x at e hs;by_cases j:x<0
     . rw [if_pos (.inl j)]at hs;simp only [BZ,ab,r0,r4,f.lenq,aq,hlt,d,e,j,seval];exact⟨S,0,rfl,by simp only [true_iff];exact z8 hs,fun h=>absurd rfl h,by omega⟩
     by_cases m:(k:Int)<x
     . rw [if_pos (.inr m)]at hs;simp only [BZ,ab,r0,r3,r4,f.lenq,aq,hlt,d,e,j,m,seval];exact⟨S,0,rfl,by simp only [true_iff];exact z8 hs,fun h=>absurd rfl h,by omega⟩
     rw [if_neg (fun h=>h.elim j m)]at hs;by_cases s:x=(k:Int)
     . rw [if_pos s]at hs;simp only [BZ,r0,r3,r4,f.lenq,aq,hlt,d,e,j,m,seval];rw [s];simp only [BZ,r3,r4,w,y,seval];exact u (i+1) _ _ (by omega) ⟨by omega,S,by simp [ao,r0],k+1,by omega,hs,by simp [ao]⟩
     . rw [if_neg s]at hs;simp only [BZ,r0,r3,r4,f.lenq,aq,hlt,d,e,j,m,s,w,seval];exact u (i+1) _ _ (by omega) ⟨by omega,S,by simp [ao,r0],k,by omega,hs,by simp [ao,r3]⟩
   . rw [List.drop_eq_nil_of_le (by omega),scan]at hs;obtain⟨a,b⟩:=B2 hs;by_cases c:(256:Int)<(k:Int)
     . simp only [BZ,ab,r0,r3,r4,f.lenq,aq,hlt,c,seval];exact⟨S,0,rfl,by rw [a];exact⟨fun _=>.inr (by omega),fun _=>rfl⟩,fun h=>absurd rfl h,by omega⟩
     . simp only [BZ,ab,r0,r3,r4,f.lenq,aq,hlt,c,seval];exact⟨S,k,rfl,by rw [a];exact⟨fun h=>.inl h,fun h=>h.elim id (fun h=>by omega)⟩,b,by omega⟩
 . exact⟨Xr _,Gr.refl t,by simp [ao,ct],0,Xz _,rfl,by simp [ao]⟩
theorem yA{b:Hp}(h:OZ b){w:Nat}(q:a<=300)(r:w<=1000):cj zB 198 [.int .i64 a,.int .i64 w] b (.bool true):=by
 have S:=Si h;have d:(0:Int)<=(a:Int):=by omega
 have i:(0:Int)<=(w:Int):=by omega
 have j:(w:Int)<=67108864:=by omega
 by_cases e:(w:Int)=0
 . refine erA (n:=27) (rs:=[.tmp 4]) Tryz.e198 ?_;simp only [BZ,ab,d,e,seval];exact S.gr
 have k:am .i64 ((w:Int)+7)=((w+7:Nat):Int):=by rw [wrap64]<;>omega
 have f:(w+7)/8<=126:=by omega
 have c:1<=(w+7)/8:=by omega
 have g:am .i64 ((((w+7:Nat):Int)).tdiv 8)=(((w+7)/8:Nat):Int):=by rw [X8 (by omega),show(((w+7:Nat):Int)/8)=(((w+7)/8:Nat):Int) by omega,wrap64]<;>omega
 generalize(w+7)/8=K at f c g;have l:(268435456:Int).tdiv (K:Int)=((268435456/K:Nat):Int):=by rw [X8 (by decide)];rfl
 have s:268435456/126<=268435456/K:=Nat.div_le_div_left f (by omega);have t:268435456/K<=268435456:=Nat.div_le_self _ _;have u:(268435456/126:Nat)=2130440:=rfl;have m:am .i64 ((268435456:Int).tdiv (K:Int))=(268435456:Int).tdiv (K:Int):=by rw [l,wrap64]<;>omega
 have o:(a:Int)<=(268435456:Int).tdiv (K:Int):=by omega
 have p:(K:Int)≠0:=by omega
 refine erA (n:=27) (rs:=[.tmp 4]) Tryz.e198 ?_;simp only [BZ,ab,d,i,j,e,k,g,m,o,iD (n:=8) (by decide),iD (n:=(K:Int)) p,seval];exact S.gr
def jX(r:Nat):Nat:=(r>>>1) ^^^(if r%2=1 then 3988292384 else 0)
def dO:Nat->Nat->Nat
 |0,r=>r|k+1,r=>dO k (jX r)
theorem Bl(k r:Nat):dO (k+1) r=jX (dO k r):=by
 induction k generalizing r with
 |zero=>rfl|succ k a=>exact a (jX r)
theorem crcN_add(j k r:Nat):dO (j+k) r=dO j (dO k r):=by
 induction k generalizing r with
 |zero=>rfl|succ k a=>exact a (jX r)
theorem crcS_xor(a b:Nat):jX (a ^^^b)=jX a ^^^jX b:=by
 unfold jX;rw [Nat.shiftRight_xor_distrib,show(a ^^^b)%2=(a%2) ^^^(b%2)from Nat.xor_mod_two_pow (n:=1)];rcases Yu a with c|c<;>rcases Yu b with d|d<;>
  simp only [c,d,Nat.xor_self,YP,Nat.zero_xor,if_true,if_false,seval]
 . ac_rfl
 . ac_rfl
 . rw [show a>>>1 ^^^3988292384 ^^^(b>>>1 ^^^3988292384)=a>>>1 ^^^b>>>1 ^^^(3988292384 ^^^3988292384) by ac_rfl,Nat.xor_self,YP]
theorem C8(k a b:Nat):dO k (a ^^^b)=dO k a ^^^dO k b:=by
 induction k generalizing a b with
 |zero=>rfl|succ k c=>show dO k _=dO k _ ^^^dO k _;rw [crcS_xor,c]
theorem BP(k x:Nat):dO k (2 ^k*x)=x:=by
 induction k generalizing x with
 |zero=>show 2 ^0*x=x;omega| succ k a=>have:jX (2 ^(k+1)*x)=2 ^k*x:=(by unfold jX;have e:2 ^(k+1)*x=2*(2 ^k*x):=(by rw [Yz,YA _ 2,Nat.mul_assoc]);rw [e,if_neg (by omega),YP,Xt];omega);show dO k (jX _)=x;rw [this,a]
theorem split_pow(k r:Nat):r=(2 ^k*(r/2 ^k)) ^^^(r%2 ^k):=by
 refine YK fun i=>?_;rw [Nat.testBit_xor,YE,XW,YF];by_cases h:k<=i
 . simp [h,Nat.not_lt.2 h,Nat.sub_add_cancel h]
 . simp [h,Nat.lt_of_not_le h]
theorem zA(k r:Nat):dO k r=(r>>>k) ^^^dO k (r%2 ^k):=by have:=C8 k (2 ^k*(r/2 ^k)) (r%2 ^k);rw [<-split_pow,BP,<-Xt]at this;exact this
theorem crcS_lt(h:r<4294967296):jX r<4294967296:=by
 unfold jX;refine XY (n:=32) ?_ ?_
 . rw [Xt];omega
 . split<;>decide
theorem xC(h:r<4294967296):dO k r<4294967296:=by
 induction k generalizing r with
 |zero=>exact h|succ k a=>exact a (crcS_lt h)
theorem crcN_bit(j r b:Nat):dO (j+1) (r ^^^(b%2 ^(j+1)))=jX (dO j (r ^^^(b%2 ^j)) ^^^(b/2 ^j%2)):=by
 rw [Bl];congr 1;have e:b%2 ^(j+1)=(b%2 ^j) ^^^(2 ^j*(b/2 ^j%2)):=by
  refine YK fun i=>?_;rw [Nat.testBit_xor,YE,XW,XW,show b/2 ^j%2=(b/2 ^j)%2 ^1 from rfl,XW,YF];rcases Nat.lt_trichotomy i j with h|h|h
  . simp [show i<j+1 by omega,h,show¬j<=i by omega]
  . subst h;simp
  . simp [show¬i<j+1 by omega,show¬i<j by omega,show j<=i by omega,show¬i-j<1 by omega]
 rw [e,<-Nat.xor_assoc,C8,BP]
def crcB(r b:Nat):Nat:=dO 8 (r ^^^b)
def pu(r:Nat)(l:List UInt8):Nat:=l.foldl (fun r b=>crcB r b.toNat) r
def crc(l:List UInt8):Nat:=4294967295 ^^^pu 4294967295 l
theorem pB(b:UInt8):b.toNat<256:=b.toNat_lt
theorem crcB_lt{b:UInt8}(h:r<4294967296):crcB r b.toNat<4294967296:=
 xC (XY (n:=32) h (Nat.lt_trans (pB b) (by decide)))
theorem ui{l:List UInt8}(h:r<4294967296):pu r l<4294967296:=by
 induction l generalizing r with
 |nil=>exact h|cons b l a=>exact a (crcB_lt h)
theorem vu(l:List UInt8):crc l<4294967296:=XY (n:=32) (by decide) (ui (by decide))
theorem xQ(r:Nat)(l m:List UInt8):pu r (l++m)=pu (pu r l) m:=List.foldl_append
theorem DP(r b:Nat):crcB r b=(((r ^^^b)>>>4) ^^^dO 4 ((r ^^^b)%16))>>>4 ^^^dO 4 ((((r ^^^b)>>>4) ^^^dO 4 ((r ^^^b)%16))%16):=by unfold crcB;rw [show(8:Nat)=4+4 from rfl,crcN_add,zA 4 (dO 4 _),zA 4 (r ^^^b)]
abbrev Bs:=List UInt8
variable{s:Bs}
def aY:Nat->Nat->Bs
 |0,_=>[]|k+1,n=>UInt8.ofNat n::aY k (n/256)
def aS:Bs->Nat
 | []=>0|b::l=>b.toNat+256*aS l
theorem bq(k n:Nat):(aY k n).length=k:=by
 induction k generalizing n with
 |zero=>rfl|succ k a=>simp [aY,a]
theorem kp(l:Bs):aS l<256 ^l.length:=by
 induction l with
 |nil=>simp [aS]| cons b l a=>have:=pB b;simp only [aS,XK,Yz];omega
theorem DS(l m:Bs):aS (l++m)=aS l+256 ^l.length*aS m:=by
 induction l with
 |nil=>simp [aS]| cons b l a=>simp only [Yj,aS,a,XK,Yz];rw [Nat.mul_add,YA (256 ^l.length) 256,Nat.mul_assoc];omega
theorem xc(h:i<k):(aY k n)[i]? =some (UInt8.ofNat (n/256 ^i)):=by
 induction k generalizing n i with
 |zero=>omega| succ k a=>
   cases i with
   |zero=>simp [aY]| succ i=>show(aY k (n/256))[i]? =_;rw [a (by omega),XP,show 256 ^(i+1)=256*256 ^i by rw [Yz,YA]]
def dS:Bs:=[77,73,76,69,49,1]
abbrev Sec:=Nat×Bs
def entB(x:Sec):Bs:=aY 1 x.1++(aY 8 x.2.length++aY 4 (crc x.2))
def i9(l:List Sec):Bs:=dS++(aY 1 l.length++l.flatMap entB)
def qW(l:List Sec):Bs:=i9 l++(aY 4 (crc (i9 l))++l.flatMap Prod.snd)
abbrev Ent:=Nat×Nat×Nat
def entD(s:Bs):Ent:=(aS (s.take 1),aS ((s.drop 1).take 8),aS ((s.drop 9).take 4))
def s9:Nat->Bs->List Ent
 |0,_=>[]|k+1,s=>entD s::s9 k (s.drop 13)
def po:List Ent->Bs->Option (List Sec)
 | [],_=>some []|(k,n,c)::a,s=>if crc (s.take n)=c then(po a (s.drop n)).map ((k,s.take n):: ·)else none
def bC(s:Bs):Nat:=aS ((s.drop 6).take 1)
def jJ(s:Bs):Prop:=s.take 6=dS/\7<=s.length/\bC s<=16/\11+13*bC s<=s.length/\aS ((s.drop (7+13*bC s)).take 4)=crc (s.take (7+13*bC s))/\
 ((s9 (bC s) (s.drop 7)).map (·.2.1)).sum=s.length-(11+13*bC s)
noncomputable instance (s:Bs):Decidable (jJ s):=Classical.propDecidable _
noncomputable def kU(s:Bs):Except Bool (List Sec):=
 if jJ s then match po (s9 (bC s) (s.drop 7)) (s.drop (11+13*bC s))with
  |some l=>.ok l|none=>.error true
 else .error false
theorem entB_len(x:Sec):(entB x).length=13:=by simp [entB,bq]
theorem wD(l:List Sec):(l.flatMap entB).length=13*l.length:=by
 induction l with
 |nil=>rfl|cons x l a=>rw [Yh,Xd,entB_len,a,XK];omega
theorem wG(l:List Sec):(i9 l).length=7+13*l.length:=by simp only [i9,Xd,bq,wD,dS,XK,Yb];omega
def secOk(x:Sec):Prop:=x.1<256/\x.2.length<18446744073709551616
theorem Da(l:List Sec):(qW l).length=11+13*l.length+(l.flatMap Prod.snd).length:=by unfold qW;rw [Xd,Xd,wG,bq];omega
def u64(x:Int):Nat:=(x%18446744073709551616).toNat
def i64(n:Nat):Int:=if n<9223372036854775808 then n else n-18446744073709551616
theorem u64_lt(x:Int):u64 x<256 ^8:=by unfold u64;omega
def pZ(x:Int):Bs:=aY 8 (u64 x)
def get8(s:Bs):Int:=i64 (aS s)
theorem sq(x:Int):(pZ x).length=8:=bq 8 _
def jL{a:Type}(f:Bs->a)(w:Nat):Nat->Bs->List a
 |0,_=>[]|k+1,s=>f (s.take w)::jL f w k (s.drop w)
theorem kJ{a:Type}(f:Bs->a)(w k:Nat)(s:Bs):(jL f w k s).length=k:=by
 induction k generalizing s with
 |zero=>rfl|succ k b=>simp [jL,b]
theorem numsD_at{a:Type}(f:Bs->a)(w:Nat)(s:Bs)(h:i<k):(jL f w k s)[i]? =some (f ((s.drop (w*i)).take w)):=by
 induction k generalizing s i with
 |zero=>omega| succ k b=>
   cases i with
   |zero=>simp [jL]| succ i=>show(jL f w k (s.drop w))[i]? =_;rw [b _ (by omega),List.drop_drop,show w+w*i=w*(i+1) by rw [Nat.mul_succ];omega]
theorem eH{a:Type}{p:a->Bs}{w:Nat}(b: ∀x,(p x).length=w)(l:List a):(l.flatMap p).length=w*l.length:=by
 induction l with
 |nil=>rfl|cons x l c=>rw [Yh,Xd,b,c,XK,Nat.mul_succ];omega
def xyB(p:Int×Int):Bs:=pZ p.1++pZ p.2
def xyG(s:Bs):Int×Int:=(get8 (s.take 8),get8 ((s.drop 8).take 8))
def n8(a:Arc):Bs:=aY 4 a.s++(aY 4 a.t++aY 4 a.w)
def arcG(s:Bs):Arc:=⟨aS (s.take 4),aS ((s.drop 4).take 4),aS ((s.drop 8).take 4)⟩
theorem rV(p:Int×Int):(xyB p).length=16:=by simp [xyB,sq]
theorem uE(a:Arc):(n8 a).length=12:=by simp [n8,bq]
def ji(a:Gra):Bs:=aY 4 a.nodes++(aY 4 a.arcs.length++((a.X.zip a.Y).flatMap xyB++a.arcs.flatMap n8))
def kA(s:Bs):Nat:=aS (s.take 4)
def rI(s:Bs):Nat:=aS ((s.drop 4).take 4)
def dh(s:Bs):Gra:=⟨kA s,(jL xyG 16 (kA s) (s.drop 8)).map XR,(jL xyG 16 (kA s) (s.drop 8)).map Prod.snd,jL arcG 12 (rI s) (s.drop (8+16*kA s))⟩
structure jM(s:Bs):Prop where
 l8:8<=s.length
 n2:kA s<=16777216
 m2:rI s<=67108864
 len:s.length=8+16*kA s+12*rI s
theorem hf_u{k:IntKind}(h:sgn k=false):hf k=pw k:=by cases k<;>first|rfl|cases h
theorem wrapN{k:IntKind}(h:sgn k=false)(n:Nat):am k (n:Int)=((n%pw k:Nat):Int):=by
 show am k (.ofNat n)=_;simp only [am,hf_u h,h];cases a:Yf n (pw k)with
 |true=>rw [Yg]at a;rw [cond_true,XO a];rfl|false=>rfl
theorem bJ{k:IntKind}(h:sgn k=false)(a:n<pw k):am k (n:Int)=(n:Int):=by rw [wrapN h,XO a]
section
variable{E:Env}{t:TypeId}{p q:Operand}{x y:Nat}{k k':IntKind}
theorem bitsU(op:BinOp)(a:x<pw k)(b:y<pw k):jw op k (x:Int) (y:Int)=match op with
 | .and=>some (am k ((x&&& y:Nat):Int))| .or=>some (am k ((x|||y:Nat):Int))
 | .xor=>some (am k ((x ^^^y:Nat):Int))| .andNot=>some (am k ((x ^^^(x&&& y):Nat):Int))|_=>none:=by
 show jw op k (.ofNat x) (.ofNat y)=_;have c:Yf x (pw k)=true:=by rw [Yg];exact a
 have d:Yf y (pw k)=true:=by rw [Yg];exact b
 unfold jw;simp only [c,d,Bool.and_self,cond_true];cases op<;>rfl
theorem pw_two(k:IntKind):pw k=2 ^bitsOf k:=by cases k<;>rfl
theorem ut(h:sgn k=false)(a:x<pw k)(b:y<pw k):bQ E .and t p q (.int k (x:Int)) (.int k (y:Int))=some (.int k ((x&&& y:Nat):Int)):=by show(bif kr k k then(jw .and k (x:Int) (y:Int)).map (Value.int k ·)else none)=_;rw [bitsU .and a b,fU];simp only [bJ h (Nat.lt_of_le_of_lt Nat.and_le_left a)];rfl
theorem b_orN(h:sgn k=false)(a:x<pw k)(b:y<pw k):bQ E .or t p q (.int k (x:Int)) (.int k (y:Int))=some (.int k ((x|||y:Nat):Int)):=by
 show(bif kr k k then(jw .or k (x:Int) (y:Int)).map (Value.int k ·)else none)=_;have:x|||y<pw k:=by rw [pw_two]at a b⊢;exact Nat.or_lt_two_pow a b
 rw [bitsU .or a b,fU];simp only [bJ h this];rfl
theorem wh(h:sgn k=false)(a:x<pw k)(b:y<pw k):bQ E .xor t p q (.int k (x:Int)) (.int k (y:Int))=some (.int k ((x ^^^y:Nat):Int)):=by
 show(bif kr k k then(jw .xor k (x:Int) (y:Int)).map (Value.int k ·)else none)=_;have:x ^^^y<pw k:=by rw [pw_two]at a b⊢;exact XY a b
 rw [bitsU .xor a b,fU];simp only [bJ h this];rfl
theorem uo(a:y<=bitsOf k):bQ E .shr t p q (.int k (x:Int)) (.int k' (y:Int))=some (.int k ((x>>>y:Nat):Int)):=by show(pk .shr k (.ofNat x) (.ofNat y)).map (Value.int k ·)=_;simp only [pk,gM,Xh a,cond_true,shrI,XA];rw [Xt];rfl
theorem yS(h:sgn k=false)(a:y<=bitsOf k):bQ E .shl t p q (.int k (x:Int)) (.int k' (y:Int))=some (.int k ((x*2 ^y%pw k:Nat):Int)):=by show(pk .shl k (x:Int) (.ofNat y)).map (Value.int k ·)=_;simp only [pk,gM,Xh a,cond_true,XA];rw [show(x:Int)*Yn (Nat.pow 2 y)=((x*2 ^y:Nat):Int) by rw [Int.natCast_mul];rfl,wrapN h]
theorem u_xorU(h:sgn k=false)(a:x<pw k):unP .xor (.int k (x:Int))=some (.int k (((pw k-1) ^^^x:Nat):Int)):=by
 have c:0<pw k:=by cases k<;>decide
 have:(pw k-1) ^^^x<pw k:=by
  have b:pw k-1<pw k:=by omega
  rw [pw_two]at a b⊢;exact XY b a
 simp only [unP,h,cond_false];rw [show(Yn (pw k-1))=((pw k-1:Nat):Int)from rfl,bitsU .xor (by omega) a];simp only [bJ h this];rfl
end
def sv(l:Bs):Value:=.string (iB l)
theorem gf(l:Bs):aU (iB l)=l:=rfl
theorem mO(l:Bs):(iB l).size=l.length:=rfl
theorem gP{l:Bs}:Fl (sv l):=fl_str
def bI(l:Bs):List Value:=l.map fun b=>.int .u8 (b.toNat:Int)
theorem eU(l:Bs):(bI l).length=l.length:=by simp [bI]
theorem nV(l m:Bs):bI (l++m)=bI l++bI m:=by simp [bI]
theorem qH(l:Bs):(bI l).all jx=true:=by simp [bI,jx]
theorem DB(l:Bs):bytesOf (bI l)=some l:=by
 induction l with
 |nil=>rfl| cons b l a=>
   show(match bytesOf (bI l)with|none=>none|some r=>some (UInt8.ofNat b.toNat::r))=_;rw [a];simp only [UInt8.ofNat_toNat]
section
variable{E:Env}{t e:TypeId}{p q:Operand}{h:Hp}{l m:Bs}
theorem cw:oX (some .string) h (sv l)=some (.val (.int .i64 (l.length:Int)),h):=rfl
theorem xI(l m:Bs):gH l m=decide (l=m):=by
 induction l generalizing m with
 |nil=>cases m<;>simp [gH]
 | cons a l c=>
   cases m with
   |nil=>simp [gH]|cons b m=>simp only [gH,c,List.cons.injEq];by_cases h:a=b<;>simp [h,UInt8.toNat_inj]
theorem ec(a:l.length+m.length<=1099511627776):bQ E .add t p q (sv l) (sv m)=some (sv (l++m)):=by simp only [sv,bQ,mO,Xh a,cond_true,gf]
theorem Du:bQ E .eql t p q (sv l) (sv m)=some (.bool (decide (l=m))):=by simp only [sv,bQ,gf,xI]
theorem Cf:bQ E .neq t p q (sv l) (sv m)=some (.bool (!decide (l=m))):=by simp only [sv,bQ,gf,xI]
theorem qo{k:IntKind}(h:i<n):i7 (.int k (i:Int)) n=some i:=ey h
theorem jW(b:E.und t=some .string){k:IntKind}(a:i<l.length):kZ E t (sv l) (.int k (i:Int))=some (.int .u8 (l[i].toNat:Int)):=by simp only [sv,kZ,b,mO,ey a,gf,Xo a];rfl
theorem qN{k:IntKind}(a:n<=y):fe (.int k (n:Int)) y=some n:=by show(match gM (.ofNat n)with|some n=>bif Ye n y then some n else none|none=>none)=_;simp only [gM,Xh a,cond_true]
theorem Dx(c:E.und t=some .string){k:IntKind}(d:a<=b)(f:b<=l.length):cZ E t (sv l) (some (.int k (a:Int))) (some (.int k' (b:Int))) none=some (sv ((l.take b).drop a)):=by simp only [sv,cZ,c,Xu,cond_false,dQ,mO,qN f,qN d,gf];rw [<-List.drop_take]
theorem qw(a:E.und t=some .string){k:IntKind}(c:b<=l.length):cZ E t (sv l) none (some (.int k (b:Int))) none=some (sv (l.take b)):=by simp only [sv,cZ,a,Xu,cond_false,dQ,mO,qN c,gf,Xy,Yq]
theorem BJ(b:E.und t=some .string){k:IntKind}(c:a<=l.length):cZ E t (sv l) (some (.int k (a:Int))) none none=some (sv (l.drop a)):=by simp only [sv,cZ,b,Xu,cond_false,dQ,mO,qN c,gf];rw [XG (by simp)]
theorem src_sv:aF h 1 (sv l)=some (l.length,bI l):=rfl
def BySl(h:Hp)(v:Value)(l:Bs):Prop:=aH h 1 (fun(b:UInt8)=>[Value.int .u8 (b.toNat:Int)]) v l
theorem byF(l:Bs):l.flatMap (fun(b:UInt8)=>[Value.int .u8 (b.toNat:Int)])=bI l:=by
 induction l with
 |nil=>rfl|cons b l a=>rw [Yh,a];rfl
theorem uU(s:BySl h v l):strOf h v=some (sv l):=by
 rcases s with⟨rfl,rfl⟩|⟨b,o,s,c,rfl,d,a⟩
 . rfl
 . rw [Xa,byF]at a;simp only [strOf,a,DB];rfl
end
theorem tJ{t e:TypeId}{k:IntKind}(a:E.und t=some (.array n e))(hs:E.sz e=some 1)(h:many<=n):cZ E t (.pointer (some ⟨b,0,none⟩)) none (some (.int k (many:Int))) none=some (.slice (some ⟨b,0,none⟩) many n):=by simp only [cZ,a,hs,dQ,qN h,Yq,Xl,Yy];cases X2 n 0<;>rfl
theorem qO{t:TypeId}{p q:Operand}{k:IntKind}{x:Nat}(h:8<=bitsOf k):bQ E .shr t p q (.int k (x:Int)) (.int k' 8)=some (.int k ((x>>>8:Nat):Int)):=uo (y:=8) h
theorem b_shr4{t:TypeId}{p q:Operand}{k:IntKind}{x:Nat}(h:4<=bitsOf k):bQ E .shr t p q (.int k (x:Int)) (.int k' 4)=some (.int k ((x>>>4:Nat):Int)):=uo (y:=4) h
def ot(n i:Nat):List Value:=(Xb 8).map fun j=>.int .u8 ((if j<i then n/256 ^j%256 else 0:Nat):Int)
theorem mW(n i:Nat):(ot n i).length=8:=by simp [ot]
theorem uH:(ot n i).set i (.int .u8 ((n/256 ^i%256:Nat):Int))=ot n (i+1):=by
 unfold ot;have:=mV (N:=8) (k:=i) (F:=fun j=>Value.int .u8 ((if j<i then n/256 ^j%256 else 0:Nat):Int)) (F':=fun j=>Value.int .u8 ((if j<i+1 then n/256 ^j%256 else 0:Nat):Int)) (fun j _ a=>by
  by_cases h:j<i
  . rw [if_pos h,if_pos (by omega)]
  . rw [if_neg h,if_neg (by omega)])
 rw [<-this,if_pos (by omega)]
theorem sV(h:many<=8):(ot n 8).take many=bI (aY many n):=by
 refine Xx fun j=>?_;unfold ot bI;rw [List.getElem?_take,Xw,Xw];by_cases a:j<many
 . rw [if_pos a,Yr (by omega),xc a,XA,XA,if_pos (by omega)];simp
 . rw [if_neg a,Ym (l:=aY many n) (by rw [bq];omega)];rfl
theorem set_self{a:Type}{l:List a}{x:a}(h:l[i]? =some x):l.set i x=l:=by
 refine Xx fun j=>?_;rw [XZ]
 split
 . rename_i e;subst e;have:=(List.getElem?_eq_some_iff.1 h).1;rw [if_pos this,h]
 . rfl
theorem eu{a:Type}{l:List a}{x y:a}(h:l[i]? =some y):(l.set i x)[i]? =some x:=by rw [XZ,if_pos rfl,if_pos (List.getElem?_eq_some_iff.1 h).1]
theorem set_set{a:Type}{l:List a}{i:Nat}{x y:a}:(l.set i x).set i y=l.set i y:=List.set_set ..
theorem wrap_u64(x:Int):am .u64 x=(u64 x:Int):=by
 cases x with
 |ofNat m=>exact(wrapN rfl m).trans (by unfold u64;rw [show Yn m=(m:Int)from rfl];simp only [pw];omega)|negSucc m=>show((pw .u64-1-m%pw .u64:Nat):Int)=_;unfold u64;simp only [pw];omega
theorem wrap_i64(h:n<18446744073709551616):am .i64 (n:Int)=i64 n:=by
 show am .i64 (.ofNat n)=_;unfold i64;simp only [am,hf,pw,sgn,cond_true,XO h];by_cases a:n<9223372036854775808
 . have:Yf n 9223372036854775808=true:=(by rw [Yg];exact a);rw [this,if_pos a];rfl
 . have:Yf n 9223372036854775808=false:=by
    cases b:Yf n 9223372036854775808 with
    |false=>rfl|true=>rw [Yg]at b;omega
   rw [this,if_neg a];simp only [cond_false];omega
theorem St.bsl{e:Hp}(S:St M e h ((a,.row (xs.flatMap (encI kd)) 1)::L) G):St M e h L G/\aH h 1 (encI kd) (.slice (some ⟨a,0,none⟩) xs.length xs.length) xs/\ ∀c,aA (.slice (some ⟨a,0,none⟩) xs.length xs.length) c->c∉keys L G:=by
 refine⟨S.drop1,.inr ⟨a,0,none,xs.length,rfl,Xz _,?_⟩,fun c d f=>?_⟩
 . have:=S.lds (b:=a) (o:=0) (n:=xs.length*1) m0 (by rw [aK (aE kd)];omega);rw [Xy,XG (by rw [aK (aE kd)];omega)]at this;exact this
 . have d:a=c:=d;subst d;exact(List.nodup_cons.1 S.apart).1 f
theorem put8_ok{F:Hp}(S:St M F hq L G){l:Bs}(u:L[i]? =some (e,.row [v] 1))(y:G[j]? =some (v,1,bI l))(H:aH hq 1 (encI .u8) f xs)(O: ∀c,aA f c->c∉keys L G)(z:many<=8)(hl:l.length+8*xs.length<=1000000):Ret zB 96 [ptrTo e,.int .i64 (many:Nat),f] hq fun r h'=> ∃v',St M F h' (L.set i (e,.row [v'] 1)) (G.set j (v',1,bI (l++xs.flatMap fun x=>aY many (u64 x)))):=by
 have P:=S;have ok:=S.ok;replace S:=S.base;refine erA (n:=42) (rs:=[]) Tryz.e96 ?_;simp only [BZ,H.lenq,seval];refine aD (fun(k:Nat) d h'=>k<=xs.length/\ ∃v',St (· ∈keys L G) hq h' (L.set i (e,.row [v'] 1)) (G.set j (v',1,bI (l++(xs.take k).flatMap fun x=>aY many (u64 x))))/\d 0=ptrTo e/\d 1=.int .i64 (many:Nat)/\d 13=f/\d 14=.int .i64 xs.length/\d 15=.int .i64 k) (fun k=>xs.length-k) ?_ 0 _ _ ?_
 . clear S;intro k Q d h1 ⟨hk,v',S,r0,r1,r13,r14,r15⟩;have A:=H.mo S.fr O;by_cases hlt:k<xs.length
   . obtain⟨c,o,g,B⟩:=A.ix (kd:=.i64) (aE .u8) hlt;have w:am .i64 ((k:Int)+1)=((k+1:Nat):Int):=(by rw [wrap64]<;>omega);have R:xs.take (k+1)=xs.take k++[xs[k]]:=Xk hlt;simp only [BZ,r13,r14,r15,aq,hlt,g,B,encI,seval];refine ag ay S ?_;clear S;intro h p S I;have T:[Value.int .u8 0,.int .u8 0,.int .u8 0,.int .u8 0,.int .u8 0,.int .u8 0,.int .u8 0,.int .u8 0]=ot (u64 xs[k]) 0:=rfl;rw [T]at S;simp only [BZ,aV,ax,a9,wrap_u64,seval];refine aD (fun(a:Nat) d h'=>a<=8/\St (· ∈keys L G) hq h' ((p,.row (ot (u64 xs[k]) a) 1)::L.set i (e,.row [v'] 1)) (G.set j (v',1,bI (l++(xs.take k).flatMap fun x=>aY many (u64 x))))/\d 0=ptrTo e/\d 1=.int .i64 (many:Nat)/\d 13=f/\d 14=.int .i64 xs.length/\d 15=.int .i64 k/\d 8=ptrTo p/\d 9=.int .u64 ((u64 xs[k]/256 ^a:Nat):Int)/\d 21=.int .i64 a) (fun a=>8-a) ?_ 0 _ _ ?_
     . clear S r0 r1 r13 r14 r15;intro a C d J ⟨ha,S,r0,r1,r13,r14,r15,r8,r9,r21⟩;have U:am .i64 ((a:Int)+1)=((a+1:Nat):Int):=(by rw [wrap64]<;>omega);by_cases s:a<8
       . have t:(a:Int)<8:=(by omega);have K:=wrapN (k:=.u8) rfl (u64 xs[k]/256 ^a);simp only [pw]at K;have V:(u64 xs[k]/256 ^a)>>>8=u64 xs[k]/256 ^(a+1):=(by rw [Xt,XP];rfl);simp only [BZ,aV,ax,a9,r8,r9,r21,t,K,qo (n:=8) s,qO (k:=.u64) (by decide),seval];refine au (aw S (i:=0) rfl Tryz.t5.2.2.1 cE (by rw [mW];exact s) ono) ?_;clear S;rintro J ⟨S,_⟩;simp only [LC,uH]at S;simp only [BZ,r9,r21,qO (k:=.u64) (by decide),V,U,seval];exact C (a+1) _ _ (by omega) ⟨by omega,S,by simp [ao,r0,r1,r13,r14,r15,r8,ah]⟩
       . have W:a=8:=(by omega);subst W;have X:=(S.row (b:=e) (.tail _ (zM (eu u)))).load1 (o:=0) rfl;have N:=S.lds (b:=p) (o:=0) (n:=many) m0 (by rw [mW];omega);rw [Xy,sV z]at N;have D:aF J 1 (.slice (some ⟨p,0,none⟩) many 8)=some (many,bI (aY many (u64 xs[k]))):=(by simp only [aF];rw [Xa,N]);have E:=tJ (n:=8) (b:=p) (many:=many) (k:=.i64) Tryz.t237.1 Tryz.t5.2.2.1 z;simp only [BZ,Xc,r15,r21,seval];refine av (aB rfl) (q:=0) (ps:=[]) (by kernel_rfl) ?_;simp only [BZ,cls,XA,XX,r0,r1,r8,X,E,seval];refine jo (S.grow (j:=j) (m:=many) (new:=bI (aY many (u64 xs[k]))) (eu y) Tryz.t22.1 Tryz.e5E (by decide) Tryz.t22.2.2.2.2.2 D (by rw [eU,bq,Xa]) (by decide) (qH _) (by
          have Y:(xs.take k).length=k:=(by rw [Xn];omega);have l2:many*k<=8*k:=XU _ z;rw [eU,eU,bq,Xd,eH (fun x=>bq many _),Y];omega)) ?_
         clear S;rintro h3 Z S;have fv:=(S.gown _ (zM (eu (eu y)))).1.fl;have tl:bI (l++(xs.take k).flatMap fun x=>aY many (u64 x))++bI (aY many (u64 xs[k]))=bI (l++(xs.take (k+1)).flatMap fun x=>aY many (u64 x)):=(by rw [<-nV,R,Xq,XS];simp);rw [set_set,tl]at S;simp only [BZ,cls,seval];refine dM (aw S (i:=i+1) (eu u) Tryz.t22.2.2.1 fv (zO (lbt rfl)) ono) ?_;clear S;rintro h4 ⟨S,_⟩;simp only [LC,set_set]at S;simp only [BZ,r15,w,seval];exact Q (k+1) _ _ (by omega) ⟨by omega,Z,S.drop1,by simp [ao,r0,r1,r13,r14]⟩
     . exact⟨Xr _,S,by simp [ao,r0,r1,r13,r14,r15,ah]⟩
   . have:k=xs.length:=(by omega);subst this;rw [XE]at S;simp only [BZ,r14,r15,aq,hlt,seval];exact⟨v',P.rebase S⟩
 . exact⟨Xr _,v,by rw [set_self u];simp only [XF,X5,Xv];rw [set_self y];exact S,by simp [ao,ct,ah,cP]⟩
theorem put32_ok{F:Hp}(S:St M F hq L G){l:Bs}(u:L[i]? =some (e,.row [v] 1))(y:G[j]? =some (v,1,bI l))(H:aH hq 1 (encI .u32) f xs)(O: ∀c,aA f c->c∉keys L G)(z:many<=8)(hl:l.length+8*xs.length<=1000000):Ret zB 98 [ptrTo e,.int .i64 (many:Nat),f] hq fun r h'=> ∃v',St M F h' (L.set i (e,.row [v'] 1)) (G.set j (v',1,bI (l++xs.flatMap fun x=>aY many (u64 x)))):=by
 have P:=S;have ok:=S.ok;replace S:=S.base;refine erA (n:=42) (rs:=[]) Tryz.e98 ?_;simp only [BZ,H.lenq,seval];refine aD (fun(k:Nat) d h'=>k<=xs.length/\ ∃v',St (· ∈keys L G) hq h' (L.set i (e,.row [v'] 1)) (G.set j (v',1,bI (l++(xs.take k).flatMap fun x=>aY many (u64 x))))/\d 0=ptrTo e/\d 1=.int .i64 (many:Nat)/\d 13=f/\d 14=.int .i64 xs.length/\d 15=.int .i64 k) (fun k=>xs.length-k) ?_ 0 _ _ ?_
 . clear S;intro k Q d h1 ⟨hk,v',S,r0,r1,r13,r14,r15⟩;have A:=H.mo S.fr O;by_cases hlt:k<xs.length
   . obtain⟨c,o,g,B⟩:=A.ix (kd:=.i64) (aE .u32) hlt;have w:am .i64 ((k:Int)+1)=((k+1:Nat):Int):=(by rw [wrap64]<;>omega);have R:xs.take (k+1)=xs.take k++[xs[k]]:=Xk hlt;simp only [BZ,r13,r14,r15,aq,hlt,g,B,encI,seval];refine ag ay S ?_;clear S;intro h p S I;have T:[Value.int .u8 0,.int .u8 0,.int .u8 0,.int .u8 0,.int .u8 0,.int .u8 0,.int .u8 0,.int .u8 0]=ot (u64 xs[k]) 0:=rfl;rw [T]at S;simp only [BZ,aV,ax,a9,wrap_u64,seval];refine aD (fun(a:Nat) d h'=>a<=8/\St (· ∈keys L G) hq h' ((p,.row (ot (u64 xs[k]) a) 1)::L.set i (e,.row [v'] 1)) (G.set j (v',1,bI (l++(xs.take k).flatMap fun x=>aY many (u64 x))))/\d 0=ptrTo e/\d 1=.int .i64 (many:Nat)/\d 13=f/\d 14=.int .i64 xs.length/\d 15=.int .i64 k/\d 8=ptrTo p/\d 9=.int .u64 ((u64 xs[k]/256 ^a:Nat):Int)/\d 21=.int .i64 a) (fun a=>8-a) ?_ 0 _ _ ?_
     . clear S r0 r1 r13 r14 r15;intro a C d J ⟨ha,S,r0,r1,r13,r14,r15,r8,r9,r21⟩;have U:am .i64 ((a:Int)+1)=((a+1:Nat):Int):=(by rw [wrap64]<;>omega);by_cases s:a<8
       . have t:(a:Int)<8:=(by omega);have K:=wrapN (k:=.u8) rfl (u64 xs[k]/256 ^a);simp only [pw]at K;have V:(u64 xs[k]/256 ^a)>>>8=u64 xs[k]/256 ^(a+1):=(by rw [Xt,XP];rfl);simp only [BZ,aV,ax,a9,r8,r9,r21,t,K,qo (n:=8) s,qO (k:=.u64) (by decide),seval];refine au (aw S (i:=0) rfl Tryz.t5.2.2.1 cE (by rw [mW];exact s) ono) ?_;clear S;rintro J ⟨S,_⟩;simp only [LC,uH]at S;simp only [BZ,r9,r21,qO (k:=.u64) (by decide),V,U,seval];exact C (a+1) _ _ (by omega) ⟨by omega,S,by simp [ao,r0,r1,r13,r14,r15,r8,ah]⟩
       . have W:a=8:=(by omega);subst W;have X:=(S.row (b:=e) (.tail _ (zM (eu u)))).load1 (o:=0) rfl;have N:=S.lds (b:=p) (o:=0) (n:=many) m0 (by rw [mW];omega);rw [Xy,sV z]at N;have D:aF J 1 (.slice (some ⟨p,0,none⟩) many 8)=some (many,bI (aY many (u64 xs[k]))):=(by simp only [aF];rw [Xa,N]);have E:=tJ (n:=8) (b:=p) (many:=many) (k:=.i64) Tryz.t237.1 Tryz.t5.2.2.1 z;simp only [BZ,Xc,r15,r21,seval];refine av (aB rfl) (q:=0) (ps:=[]) (by kernel_rfl) ?_;simp only [BZ,cls,XA,XX,r0,r1,r8,X,E,seval];refine jo (S.grow (j:=j) (m:=many) (new:=bI (aY many (u64 xs[k]))) (eu y) Tryz.t22.1 Tryz.e5E (by decide) Tryz.t22.2.2.2.2.2 D (by rw [eU,bq,Xa]) (by decide) (qH _) (by
          have Y:(xs.take k).length=k:=(by rw [Xn];omega);have l2:many*k<=8*k:=XU _ z;rw [eU,eU,bq,Xd,eH (fun x=>bq many _),Y];omega)) ?_
         clear S;rintro h3 Z S;have fv:=(S.gown _ (zM (eu (eu y)))).1.fl;have tl:bI (l++(xs.take k).flatMap fun x=>aY many (u64 x))++bI (aY many (u64 xs[k]))=bI (l++(xs.take (k+1)).flatMap fun x=>aY many (u64 x)):=(by rw [<-nV,R,Xq,XS];simp);rw [set_set,tl]at S;simp only [BZ,cls,seval];refine dM (aw S (i:=i+1) (eu u) Tryz.t22.2.2.1 fv (zO (lbt rfl)) ono) ?_;clear S;rintro h4 ⟨S,_⟩;simp only [LC,set_set]at S;simp only [BZ,r15,w,seval];exact Q (k+1) _ _ (by omega) ⟨by omega,Z,S.drop1,by simp [ao,r0,r1,r13,r14]⟩
     . exact⟨Xr _,S,by simp [ao,r0,r1,r13,r14,r15,ah]⟩
   . have:k=xs.length:=(by omega);subst this;rw [XE]at S;simp only [BZ,r14,r15,aq,hlt,seval];exact⟨v',P.rebase S⟩
 . exact⟨Xr _,v,by rw [set_self u];simp only [XF,X5,Xv];rw [set_self y];exact S,by simp [ao,ct,ah,cP]⟩
theorem put64_ok{F:Hp}(S:St M F hq L G){l:Bs}(u:L[i]? =some (e,.row [v] 1))(y:G[j]? =some (v,1,bI l))(H:aH hq 1 (encI .u64) f xs)(O: ∀c,aA f c->c∉keys L G)(z:many<=8)(P: ∀x∈xs,((u64 x:Nat):Int)=x)(hl:l.length+8*xs.length<=1000000):Ret zB 97 [ptrTo e,.int .i64 (many:Nat),f] hq fun r h'=> ∃v',St M F h' (L.set i (e,.row [v'] 1)) (G.set j (v',1,bI (l++xs.flatMap fun x=>aY many (u64 x)))):=by
 have Q:=S;have ok:=S.ok;replace S:=S.base;refine erA (n:=41) (rs:=[]) Tryz.e97 ?_;simp only [BZ,H.lenq,seval];refine aD (fun(k:Nat) d h'=>k<=xs.length/\ ∃v',St (· ∈keys L G) hq h' (L.set i (e,.row [v'] 1)) (G.set j (v',1,bI (l++(xs.take k).flatMap fun x=>aY many (u64 x))))/\d 0=ptrTo e/\d 1=.int .i64 (many:Nat)/\d 13=f/\d 14=.int .i64 xs.length/\d 15=.int .i64 k) (fun k=>xs.length-k) ?_ 0 _ _ ?_
 . clear S;intro k R d h1 ⟨hk,v',S,r0,r1,r13,r14,r15⟩;have A:=H.mo S.fr O;by_cases hlt:k<xs.length
   . obtain⟨c,o,g,B⟩:=A.ix (kd:=.i64) (aE .u64) hlt;have w:am .i64 ((k:Int)+1)=((k+1:Nat):Int):=(by rw [wrap64]<;>omega);have T:xs.take (k+1)=xs.take k++[xs[k]]:=Xk hlt;simp only [BZ,r13,r14,r15,aq,hlt,g,B,encI,seval];refine ag ay S ?_;clear S;intro h p S I;have U:[Value.int .u8 0,.int .u8 0,.int .u8 0,.int .u8 0,.int .u8 0,.int .u8 0,.int .u8 0,.int .u8 0]=ot (u64 xs[k]) 0:=rfl;rw [U]at S;simp only [BZ,seval];refine aD (fun(a:Nat) d h'=>a<=8/\St (· ∈keys L G) hq h' ((p,.row (ot (u64 xs[k]) a) 1)::L.set i (e,.row [v'] 1)) (G.set j (v',1,bI (l++(xs.take k).flatMap fun x=>aY many (u64 x))))/\d 0=ptrTo e/\d 1=.int .i64 (many:Nat)/\d 13=f/\d 14=.int .i64 xs.length/\d 15=.int .i64 k/\d 8=ptrTo p/\d 9=.int .u64 ((u64 xs[k]/256 ^a:Nat):Int)/\d 20=.int .i64 a) (fun a=>8-a) ?_ 0 _ _ ?_
     . clear S r0 r1 r13 r14 r15;intro a C d J ⟨ha,S,r0,r1,r13,r14,r15,r8,r9,r21⟩;have V:am .i64 ((a:Int)+1)=((a+1:Nat):Int):=(by rw [wrap64]<;>omega);by_cases s:a<8
       . have t:(a:Int)<8:=(by omega);have K:=wrapN (k:=.u8) rfl (u64 xs[k]/256 ^a);simp only [pw]at K;have W:(u64 xs[k]/256 ^a)>>>8=u64 xs[k]/256 ^(a+1):=(by rw [Xt,XP];rfl);simp only [BZ,aV,ax,a9,r8,r9,r21,t,K,qo (n:=8) s,qO (k:=.u64) (by decide),seval];refine au (aw S (i:=0) rfl Tryz.t5.2.2.1 cE (by rw [mW];exact s) ono) ?_;clear S;rintro J ⟨S,_⟩;simp only [LC,uH]at S;simp only [BZ,r9,r21,qO (k:=.u64) (by decide),W,V,seval];exact C (a+1) _ _ (by omega) ⟨by omega,S,by simp [ao,r0,r1,r13,r14,r15,r8,ah]⟩
       . have X:a=8:=(by omega);subst X;have Y:=(S.row (b:=e) (.tail _ (zM (eu u)))).load1 (o:=0) rfl;have N:=S.lds (b:=p) (o:=0) (n:=many) m0 (by rw [mW];omega);rw [Xy,sV z]at N;have D:aF J 1 (.slice (some ⟨p,0,none⟩) many 8)=some (many,bI (aY many (u64 xs[k]))):=(by simp only [aF];rw [Xa,N]);have E:=tJ (n:=8) (b:=p) (many:=many) (k:=.i64) Tryz.t237.1 Tryz.t5.2.2.1 z;simp only [BZ,Xc,r15,r21,seval];refine av (aB rfl) (q:=0) (ps:=[]) (by kernel_rfl) ?_;simp only [BZ,cls,XA,XX,r0,r1,r8,Y,E,seval];refine jo (S.grow (j:=j) (m:=many) (new:=bI (aY many (u64 xs[k]))) (eu y) Tryz.t22.1 Tryz.e5E (by decide) Tryz.t22.2.2.2.2.2 D (by rw [eU,bq,Xa]) (by decide) (qH _) (by
          have Z:(xs.take k).length=k:=(by rw [Xn];omega);have l2:many*k<=8*k:=XU _ z;rw [eU,eU,bq,Xd,eH (fun x=>bq many _),Z];omega)) ?_
         clear S;rintro h3 v2 S;have fv:=(S.gown _ (zM (eu (eu y)))).1.fl;have tl:bI (l++(xs.take k).flatMap fun x=>aY many (u64 x))++bI (aY many (u64 xs[k]))=bI (l++(xs.take (k+1)).flatMap fun x=>aY many (u64 x)):=(by rw [<-nV,T,Xq,XS];simp);rw [set_set,tl]at S;simp only [BZ,cls,seval];refine dM (aw S (i:=i+1) (eu u) Tryz.t22.2.2.1 fv (zO (lbt rfl)) ono) ?_;clear S;rintro h4 ⟨S,_⟩;simp only [LC,set_set]at S;simp only [BZ,r15,w,seval];exact R (k+1) _ _ (by omega) ⟨by omega,v2,S.drop1,by simp [ao,r0,r1,r13,r14]⟩
     . exact⟨Xr _,S,by simp [ao,r0,r1,r13,r14,r15,ah,P _ (XJ hlt)]⟩
   . have:k=xs.length:=(by omega);subst this;rw [XE]at S;simp only [BZ,r14,r15,aq,hlt,seval];exact⟨v',Q.rebase S⟩
 . exact⟨Xr _,v,by rw [set_self u];simp only [XF,X5,Xv];rw [set_self y];exact S,by simp [ao,ct,ah,cP]⟩
theorem putI_ok{F:Hp}(S:St M F hq L G){l:Bs}(u:L[i]? =some (e,.row [v] 1))(y:G[j]? =some (v,1,bI l))(H:aH hq 1 (encI .i64) f xs)(O: ∀c,aA f c->c∉keys L G)(z:many<=8)(hl:l.length+8*xs.length<=1000000):Ret zB 189 [ptrTo e,.int .i64 (many:Nat),f] hq fun r h'=> ∃v',St M F h' (L.set i (e,.row [v'] 1)) (G.set j (v',1,bI (l++xs.flatMap fun x=>aY many (u64 x)))):=by
 have P:=S;have ok:=S.ok;replace S:=S.base;refine erA (n:=42) (rs:=[]) Tryz.e189 ?_;simp only [BZ,H.lenq,seval];refine aD (fun(k:Nat) d h'=>k<=xs.length/\ ∃v',St (· ∈keys L G) hq h' (L.set i (e,.row [v'] 1)) (G.set j (v',1,bI (l++(xs.take k).flatMap fun x=>aY many (u64 x))))/\d 0=ptrTo e/\d 1=.int .i64 (many:Nat)/\d 13=f/\d 14=.int .i64 xs.length/\d 15=.int .i64 k) (fun k=>xs.length-k) ?_ 0 _ _ ?_
 . clear S;intro k Q d h1 ⟨hk,v',S,r0,r1,r13,r14,r15⟩;have A:=H.mo S.fr O;by_cases hlt:k<xs.length
   . obtain⟨c,o,g,B⟩:=A.ix (kd:=.i64) (aE .i64) hlt;have w:am .i64 ((k:Int)+1)=((k+1:Nat):Int):=(by rw [wrap64]<;>omega);have R:xs.take (k+1)=xs.take k++[xs[k]]:=Xk hlt;simp only [BZ,r13,r14,r15,aq,hlt,g,B,encI,seval];refine ag ay S ?_;clear S;intro h p S I;have T:[Value.int .u8 0,.int .u8 0,.int .u8 0,.int .u8 0,.int .u8 0,.int .u8 0,.int .u8 0,.int .u8 0]=ot (u64 xs[k]) 0:=rfl;rw [T]at S;simp only [BZ,aV,ax,a9,wrap_u64,seval];refine aD (fun(a:Nat) d h'=>a<=8/\St (· ∈keys L G) hq h' ((p,.row (ot (u64 xs[k]) a) 1)::L.set i (e,.row [v'] 1)) (G.set j (v',1,bI (l++(xs.take k).flatMap fun x=>aY many (u64 x))))/\d 0=ptrTo e/\d 1=.int .i64 (many:Nat)/\d 13=f/\d 14=.int .i64 xs.length/\d 15=.int .i64 k/\d 8=ptrTo p/\d 9=.int .u64 ((u64 xs[k]/256 ^a:Nat):Int)/\d 21=.int .i64 a) (fun a=>8-a) ?_ 0 _ _ ?_
     . clear S r0 r1 r13 r14 r15;intro a C d J ⟨ha,S,r0,r1,r13,r14,r15,r8,r9,r21⟩;have U:am .i64 ((a:Int)+1)=((a+1:Nat):Int):=(by rw [wrap64]<;>omega);by_cases s:a<8
       . have t:(a:Int)<8:=(by omega);have K:=wrapN (k:=.u8) rfl (u64 xs[k]/256 ^a);simp only [pw]at K;have V:(u64 xs[k]/256 ^a)>>>8=u64 xs[k]/256 ^(a+1):=(by rw [Xt,XP];rfl);simp only [BZ,aV,ax,a9,r8,r9,r21,t,K,qo (n:=8) s,qO (k:=.u64) (by decide),seval];refine au (aw S (i:=0) rfl Tryz.t5.2.2.1 cE (by rw [mW];exact s) ono) ?_;clear S;rintro J ⟨S,_⟩;simp only [LC,uH]at S;simp only [BZ,r9,r21,qO (k:=.u64) (by decide),V,U,seval];exact C (a+1) _ _ (by omega) ⟨by omega,S,by simp [ao,r0,r1,r13,r14,r15,r8,ah]⟩
       . have W:a=8:=(by omega);subst W;have X:=(S.row (b:=e) (.tail _ (zM (eu u)))).load1 (o:=0) rfl;have N:=S.lds (b:=p) (o:=0) (n:=many) m0 (by rw [mW];omega);rw [Xy,sV z]at N;have D:aF J 1 (.slice (some ⟨p,0,none⟩) many 8)=some (many,bI (aY many (u64 xs[k]))):=(by simp only [aF];rw [Xa,N]);have E:=tJ (n:=8) (b:=p) (many:=many) (k:=.i64) Tryz.t237.1 Tryz.t5.2.2.1 z;simp only [BZ,Xc,r15,r21,seval];refine av (aB rfl) (q:=0) (ps:=[]) (by kernel_rfl) ?_;simp only [BZ,cls,XA,XX,r0,r1,r8,X,E,seval];refine jo (S.grow (j:=j) (m:=many) (new:=bI (aY many (u64 xs[k]))) (eu y) Tryz.t22.1 Tryz.e5E (by decide) Tryz.t22.2.2.2.2.2 D (by rw [eU,bq,Xa]) (by decide) (qH _) (by
          have Y:(xs.take k).length=k:=(by rw [Xn];omega);have l2:many*k<=8*k:=XU _ z;rw [eU,eU,bq,Xd,eH (fun x=>bq many _),Y];omega)) ?_
         clear S;rintro h3 Z S;have fv:=(S.gown _ (zM (eu (eu y)))).1.fl;have tl:bI (l++(xs.take k).flatMap fun x=>aY many (u64 x))++bI (aY many (u64 xs[k]))=bI (l++(xs.take (k+1)).flatMap fun x=>aY many (u64 x)):=(by rw [<-nV,R,Xq,XS];simp);rw [set_set,tl]at S;simp only [BZ,cls,seval];refine dM (aw S (i:=i+1) (eu u) Tryz.t22.2.2.1 fv (zO (lbt rfl)) ono) ?_;clear S;rintro h4 ⟨S,_⟩;simp only [LC,set_set]at S;simp only [BZ,r15,w,seval];exact Q (k+1) _ _ (by omega) ⟨by omega,Z,S.drop1,by simp [ao,r0,r1,r13,r14]⟩
     . exact⟨Xr _,S,by simp [ao,r0,r1,r13,r14,r15,ah]⟩
   . have:k=xs.length:=(by omega);subst this;rw [XE]at S;simp only [BZ,r14,r15,aq,hlt,seval];exact⟨v',P.rebase S⟩
 . exact⟨Xr _,v,by rw [set_self u];simp only [XF,X5,Xv];rw [set_self y];exact S,by simp [ao,ct,ah,cP]⟩
theorem zC(S:St M d hq L G){b:Value}{l:Bs}(e:L[i]? =some (a,.row [v] 1))(f:G[j]? =some (v,1,bI l))(g:aH hq 1 (encI .u8) b xs)(k: ∀c,aA b c->c∉keys L G)(m:l.length+8*xs.length<=1000000):Ret zB 37 [ptrTo a,b] hq fun r h'=> ∃v',St M d h' (L.set i (a,.row [v'] 1)) (G.set j (v',1,bI (l++xs.flatMap fun x=>aY 1 (u64 x)))):=by
 refine erA (n:=7) (rs:=[]) Tryz.e37 ?_;simp only [BZ,seval];refine step_ret (put8_ok (many:=1) S e f g k (by decide) m) ?_;rintro r h ⟨v',o⟩;simp only [BZ];exact⟨v',o⟩
theorem ur(S:St M d hq L G){b:Value}{l:Bs}(e:L[i]? =some (a,.row [v] 1))(f:G[j]? =some (v,1,bI l))(g:aH hq 1 (encI .u32) b xs)(k: ∀c,aA b c->c∉keys L G)(m:l.length+8*xs.length<=1000000):Ret zB 39 [ptrTo a,b] hq fun r h'=> ∃v',St M d h' (L.set i (a,.row [v'] 1)) (G.set j (v',1,bI (l++xs.flatMap fun x=>aY 4 (u64 x)))):=by
 refine erA (n:=7) (rs:=[]) Tryz.e39 ?_;simp only [BZ,seval];refine step_ret (put32_ok (many:=4) S e f g k (by decide) m) ?_;rintro r h ⟨v',o⟩;simp only [BZ];exact⟨v',o⟩
theorem wU64_ok(S:St M d hq L G){b:Value}{l:Bs}(e:L[i]? =some (a,.row [v] 1))(f:G[j]? =some (v,1,bI l))(g:aH hq 1 (encI .u64) b xs)(k: ∀c,aA b c->c∉keys L G)(m: ∀x∈xs,((u64 x:Nat):Int)=x)(o:l.length+8*xs.length<=1000000):Ret zB 38 [ptrTo a,b] hq fun r h'=> ∃v',St M d h' (L.set i (a,.row [v'] 1)) (G.set j (v',1,bI (l++xs.flatMap fun x=>aY 8 (u64 x)))):=by
 refine erA (n:=7) (rs:=[]) Tryz.e38 ?_;simp only [BZ,seval];refine step_ret (put64_ok (many:=8) S e f g k (by decide) m o) ?_;rintro r h ⟨v',p⟩;simp only [BZ];exact⟨v',p⟩
theorem Ao(S:St M d hq L G){b:Value}{l:Bs}(e:L[i]? =some (a,.row [v] 1))(f:G[j]? =some (v,1,bI l))(g:aH hq 1 (encI .i64) b xs)(k: ∀c,aA b c->c∉keys L G)(m:l.length+8*xs.length<=1000000):Ret zB 131 [ptrTo a,b] hq fun r h'=> ∃v',St M d h' (L.set i (a,.row [v'] 1)) (G.set j (v',1,bI (l++xs.flatMap fun x=>aY 8 (u64 x)))):=by
 refine erA (n:=7) (rs:=[]) Tryz.e131 ?_;simp only [BZ,seval];refine step_ret (putI_ok (many:=8) S e f g k (by decide) m) ?_;rintro r h ⟨v',o⟩;simp only [BZ];exact⟨v',o⟩
theorem Ck(S:St M c hq L G){l m:Bs}(d:L[i]? =some (a,.row [v] 1))(e:G[j]? =some (v,1,bI l))(p:l.length+m.length<=1000000):Ret zB 36 [ptrTo a,sv m] hq fun r h'=> ∃v',St M c h' (L.set i (a,.row [v'] 1)) (G.set j (v',1,bI (l++m))):=by
 have q:=S.ok;have f:=(S.row (b:=a) (zM d)).load1 (o:=0) rfl;refine erA (n:=15) (rs:=[]) Tryz.e36 ?_;simp only [BZ,f,seval];refine dq (S.grow (j:=j) (m:=m.length) (new:=bI m) e Tryz.t22.1 Tryz.e5E (by decide) Tryz.t9.2.2.2.2 src_sv (by rw [eU,Xa]) (by decide) (qH _) (by rw [eU,eU];omega)) ?_;clear S;rintro h g S;have k:=(S.gown _ (zM (eu e))).1.fl;rw [<-nV]at S;simp only [BZ,seval];refine au (aw S (i:=i) d Tryz.t22.2.2.1 k (zO (lbt rfl)) ono) ?_;clear S;rintro h ⟨S,_⟩;simp only [LC]at S;simp only [BZ];exact⟨g,S⟩
theorem by_of{l:Bs}(g:kB h (v,1,bI l)):BySl h v l:=g.sl (byF l).symm (fun _=>rfl) (by decide)
theorem nj{a:Hp}(c:OZ a){l:Bs}(d:a.load b 0 1=some [v])(g:kB a (v,1,bI l)):cj zB 41 [ptrTo b] a (sv l):=by have S:=Si c;refine erA (n:=10) (rs:=[.tmp 2]) Tryz.e41 ?_;simp only [BZ,aV,ax,ab,d,uU (by_of g),seval];exact S.gr
theorem qF{b:Hp}(S:St M b hq L G):Ret zB 35 [] hq fun r h'=> ∃a,r=ptrTo a/\St M b h' ((a,.row [.slice none 0 0] 1)::L) ((.slice none 0 0,1,bI [])::G):=by have d:=S.ok;refine erA (n:=3) (rs:=[.tmp 0]) Tryz.e35 ?_;simp only [BZ,seval];refine ag (bK (by intro x e;cases e)) S ?_;clear S;intro h a S c;simp only [ae]at S;simp only [BZ,ab,seval];exact⟨a,rfl,S.nilG⟩
def rdC(s:Bs)(a:Nat)(f:Value):List Value:=[sv s,.int .i64 (a:Nat),f]
def RdF(f:Value)(bad:Bool):Prop:=if bad=true then∃x,f=.pointer (some x)else f=.pointer none
def Int4(l:List Value):Prop:= ∃x y z w:Int,l=[.int .i64 x,.int .i64 y,.int .i64 z,.int .i64 w]
def RdO(d h:Hp)(f:Value)(bad:Bool)(c:Value)(a:Bool):Prop:=RdF c a/\((c=f/\a=bad)\/ ∃b l,c=ptrTo b/\d.n<=b/\Int4 l/\Row h b l 1)
def aT(s:Bs)(a:Nat)(bad:Bool)(n:Nat):Bs×Nat×Bool:=if bad=true\/s.length<a+n then([],a,true)else((s.drop a).take n,a+n,false)
theorem jc:(aT s a bad n).1.length<=n:=by unfold aT;split<;>simp<;>omega
theorem mJ(h:a<=s.length):(aT s a bad n).2.1<=s.length:=by
 unfold aT;split
 . exact h
 . show a+n<=s.length;omega
theorem uh{p:Hp}(S:St M p hq L G){g:Nat}(j:L[i]? =some (g,.row (rdC s a f) 1))(hf:RdF f bad)(E:a<=s.length)(hs:s.length<=1000000)(F:n<=10000000):Ret zB 203 [ptrTo g,.int .i64 (n:Nat)] hq fun r h'=>r=sv (aT s a bad n).1/\ ∃y,RdO p h' f bad y (aT s a bad n).2.2/\St M p h' (L.set i (g,.row (rdC s (aT s a bad n).2.1 y) 1)) G:=by
 have H:=S.ok;have R:=S.row (b:=g) (zM j);have t:=R.load1 (o:=0) rfl;have u:=R.load1 (o:=1) rfl;have v:=R.load1 (o:=2) rfl;cases bad with
 | true=>
   obtain⟨x,rfl⟩:=hf;refine erA (n:=74) (rs:=[.tmp 4]) Tryz.e203 ?_;simp only [BZ,ab,v,seval];exact⟨rfl,_,⟨⟨x,rfl⟩,.inl ⟨rfl,rfl⟩⟩,by unfold aT;rw [if_pos (.inl rfl),set_self j];exact S⟩
 | false=>
   have hf:f=.pointer none:=hf;subst hf;have z: ¬((n:Int)<0):=(by omega);have A:am .i64 ((s.length:Int)-(a:Int))=((s.length-a:Nat):Int):=(by rw [wrap64]<;>omega);have C:am .i64 ((a:Int)+(n:Int))=((a+n:Nat):Int):=(by rw [wrap64]<;>omega);by_cases m:s.length<a+n
   . have w:((s.length-a:Nat):Int)<(n:Int):=(by omega);refine erA (n:=74) (rs:=[.tmp 4]) Tryz.e203 ?_;simp only [BZ,v,z,seval];refine av (aB rfl) (q:=0) (ps:=[]) (by kernel_rfl) ?_;simp only [BZ,cls,t,u,cw,A,w,seval];refine ag (bK (by intro x e;cases e)) S ?_;clear S;intro h B S d;simp only [ae]at S;simp only [BZ,seval];refine au (aw S (i:=i+1) j Tryz.t104.2.2.1 dB (zO (lbt rfl)) ono) ?_;clear S;rintro h ⟨S,_⟩;simp only [BZ,ab,seval];exact⟨by unfold aT;rw [if_pos (.inr m)];rfl,.pointer (some ⟨B,0,none⟩),by unfold aT;rw [if_pos (.inr m)];exact⟨⟨_,rfl⟩,.inr ⟨B,_,rfl,d,⟨_,_,_,_,rfl⟩,S.row (zM (i:=0) rfl)⟩⟩,by unfold aT;rw [if_pos (.inr m)];exact S.drop1⟩
   . have w: ¬((s.length-a:Nat):Int)<(n:Int):=(by omega);have D:=Dx (l:=s) (k:=.i64) (k':=.i64) (a:=a) (b:=a+n) Tryz.t9.1 (by omega) (by omega);refine erA (n:=74) (rs:=[.tmp 4]) Tryz.e203 ?_;simp only [BZ,v,z,seval];refine av (aB rfl) (q:=0) (ps:=[]) (by kernel_rfl) ?_;simp only [BZ,cls,t,u,cw,A,w,seval];refine av (aB rfl) (q:=0) (ps:=[]) (by kernel_rfl) ?_;simp only [BZ,cls,XA,XX,t,u,C,D,seval];refine au (aw S (i:=i) j Tryz.t3.2.2.1 cE (zO (lbt rfl)) ono) ?_;clear S;rintro h ⟨S,_⟩;simp only [BZ,ab,seval];have e:(s.take (a+n)).drop a=(s.drop a).take n:=(by rw [List.drop_take];congr 1;omega);have c: ¬((false:Bool)=true\/s.length<a+n):=(by rintro(h|h);cases h;exact m h);exact⟨by unfold aT;rw [if_neg c,e],.pointer none,by unfold aT;rw [if_neg c];exact⟨rfl,.inl ⟨rfl,rfl⟩⟩,by unfold aT;rw [if_neg c];exact S⟩
theorem y9{l:Bs}(h:i<l.length):aS (l.take i)|||(l[i].toNat*2 ^(8*i))=aS (l.take (i+1)):=by
 have a:(l.take i).length=i:=by rw [Xn];omega
 have b:=kp (l.take i);rw [a,show(256:Nat)=2 ^8 from rfl,<-Nat.pow_mul]at b;rw [Xk h,DS,a,show(256:Nat) ^i=2 ^(8*i) by rw [Nat.pow_mul]];have:=Nat.two_pow_add_eq_or_of_lt b l[i].toNat;rw [Nat.or_comm,YA l[i].toNat,<-this,show aS [l[i]]=l[i].toNat by simp [aS]];omega
theorem zj(S:St M c hq L G){d:Nat}(C:L[i]? =some (d,.row (rdC s a f) 1))(hf:RdF f bad)(D:a<=s.length)(hs:s.length<=1000000):Ret zB 137 [ptrTo d] hq fun r h'=>r=.int .u8 (aS (aT s a bad 1).1:Nat)/\ ∃e,RdO c h' f bad e (aT s a bad 1).2.2/\St M c h' (L.set i (d,.row (rdC s (aT s a bad 1).2.1 e) 1)) G:=by
 have O:=S.ok;have u:=jc (s:=s) (a:=a) (n:=1) (bad:=bad);have j:Ret zB 192 [ptrTo d,.int .i64 1] hq fun r h'=>r=.int .u8 (aS (aT s a bad 1).1:Nat)/\ ∃e,RdO c h' f bad e (aT s a bad 1).2.2/\St M c h' (L.set i (d,.row (rdC s (aT s a bad 1).2.1 e) 1)) G:=by
  refine erA (n:=28) (rs:=[.tmp 4]) Tryz.e192 ?_;simp only [BZ,seval];refine step_ret (uh (n:=1) S C hf D hs (by decide)) ?_;rintro r h ⟨rfl,P⟩;generalize(aT s a bad 1).1=l at u;have Q:=kp l;have F:256 ^l.length<=256 ^1:=XB (by decide) u;simp only [seval]at F;simp only [BZ,cw,seval];refine aD (fun(k:Nat) g h'=>k<=l.length/\h'=h/\g 5=sv l/\g 6=.int .u64 (aS (l.take k):Nat)/\g 12=.int .i64 l.length/\g 13=.int .i64 k) (fun k=>l.length-k) ?_ 0 _ _ ?_
  . rintro k H g h' ⟨R,rfl,v,m,b,r13⟩;have w:am .i64 ((k:Int)+1)=((k+1:Nat):Int):=(by rw [wrap64]<;>omega);by_cases hlt:k<l.length
    . have T:=pB l[k];have I:=bJ (k:=.u64) rfl (n:=l[k].toNat) (by simp only [pw];omega);have J:am .i64 (8*(k:Int))=((8*k:Nat):Int):=(by rw [wrap64]<;>omega);have z:l[k].toNat*2 ^(8*k)<18446744073709551616:=(by have:k=0\/k=1\/k=2\/k=3\/k=4\/k=5\/k=6\/k=7:=(by omega);rcases this with rfl|rfl|rfl|rfl|rfl|rfl|rfl|rfl<;>simp only [seval]<;>omega);have K:aS (l.take k)<18446744073709551616:=(by have U:=kp (l.take k);have:256 ^(l.take k).length<=256 ^8:=XB (by decide) (by rw [Xn];omega);omega);have A:=fun(t:TypeId) (p q:Operand)=>yS (E:=zB) (t:=t) (p:=p) (q:=q) (k:=.u64) (k':=.i64) (x:=l[k].toNat) (y:=8*k) rfl (by show _<=64;omega);simp only [pw,XO z]at A;have B:=fun(t:TypeId) (p q:Operand)=>b_orN (E:=zB) (t:=t) (p:=p) (q:=q) (k:=.u64) (x:=aS (l.take k)) (y:=l[k].toNat*2 ^(8*k)) rfl K z;simp only [y9 hlt]at B;simp only [BZ,aV,ax,a9,v,m,b,r13,aq,hlt,jW Tryz.t9.1 hlt,I,J,A,B,w,seval];exact H (k+1) _ _ (by omega) ⟨by omega,rfl,by simp [ao,v,b]⟩
    . have o:k=l.length:=(by omega);subst o;rw [XE]at m;have N:am .u8 ((aS l:Nat):Int)=_:=bJ rfl (by simp only [pw];omega);simp only [BZ,aV,ax,a9,ab,m,b,r13,aq,hlt,N,seval];exact P
  . exact⟨Xr _,rfl,by simp [ao,aS]⟩
 refine erA (n:=5) (rs:=[.tmp 2]) Tryz.e137 ?_;simp only [BZ,seval];refine step_ret j ?_;rintro r h ⟨rfl,P⟩;simp only [BZ,ab,seval];exact P
theorem z7(S:St M c hq L G){d:Nat}(C:L[i]? =some (d,.row (rdC s a f) 1))(hf:RdF f bad)(D:a<=s.length)(hs:s.length<=1000000):Ret zB 153 [ptrTo d] hq fun r h'=>r=.int .u32 (aS (aT s a bad 4).1:Nat)/\ ∃e,RdO c h' f bad e (aT s a bad 4).2.2/\St M c h' (L.set i (d,.row (rdC s (aT s a bad 4).2.1 e) 1)) G:=by
 have O:=S.ok;have u:=jc (s:=s) (a:=a) (n:=4) (bad:=bad);have j:Ret zB 202 [ptrTo d,.int .i64 4] hq fun r h'=>r=.int .u32 (aS (aT s a bad 4).1:Nat)/\ ∃e,RdO c h' f bad e (aT s a bad 4).2.2/\St M c h' (L.set i (d,.row (rdC s (aT s a bad 4).2.1 e) 1)) G:=by
  refine erA (n:=28) (rs:=[.tmp 4]) Tryz.e202 ?_;simp only [BZ,seval];refine step_ret (uh (n:=4) S C hf D hs (by decide)) ?_;rintro r h ⟨rfl,P⟩;generalize(aT s a bad 4).1=l at u;have Q:=kp l;have F:256 ^l.length<=256 ^4:=XB (by decide) u;simp only [seval]at F;simp only [BZ,cw,seval];refine aD (fun(k:Nat) g h'=>k<=l.length/\h'=h/\g 5=sv l/\g 6=.int .u64 (aS (l.take k):Nat)/\g 12=.int .i64 l.length/\g 13=.int .i64 k) (fun k=>l.length-k) ?_ 0 _ _ ?_
  . rintro k H g h' ⟨R,rfl,v,m,b,r13⟩;have w:am .i64 ((k:Int)+1)=((k+1:Nat):Int):=(by rw [wrap64]<;>omega);by_cases hlt:k<l.length
    . have T:=pB l[k];have I:=bJ (k:=.u64) rfl (n:=l[k].toNat) (by simp only [pw];omega);have J:am .i64 (8*(k:Int))=((8*k:Nat):Int):=(by rw [wrap64]<;>omega);have z:l[k].toNat*2 ^(8*k)<18446744073709551616:=(by have:k=0\/k=1\/k=2\/k=3\/k=4\/k=5\/k=6\/k=7:=(by omega);rcases this with rfl|rfl|rfl|rfl|rfl|rfl|rfl|rfl<;>simp only [seval]<;>omega);have K:aS (l.take k)<18446744073709551616:=(by have U:=kp (l.take k);have:256 ^(l.take k).length<=256 ^8:=XB (by decide) (by rw [Xn];omega);omega);have A:=fun(t:TypeId) (p q:Operand)=>yS (E:=zB) (t:=t) (p:=p) (q:=q) (k:=.u64) (k':=.i64) (x:=l[k].toNat) (y:=8*k) rfl (by show _<=64;omega);simp only [pw,XO z]at A;have B:=fun(t:TypeId) (p q:Operand)=>b_orN (E:=zB) (t:=t) (p:=p) (q:=q) (k:=.u64) (x:=aS (l.take k)) (y:=l[k].toNat*2 ^(8*k)) rfl K z;simp only [y9 hlt]at B;simp only [BZ,aV,ax,a9,v,m,b,r13,aq,hlt,jW Tryz.t9.1 hlt,I,J,A,B,w,seval];exact H (k+1) _ _ (by omega) ⟨by omega,rfl,by simp [ao,v,b]⟩
    . have o:k=l.length:=(by omega);subst o;rw [XE]at m;have N:am .u32 ((aS l:Nat):Int)=_:=bJ rfl (by simp only [pw];omega);simp only [BZ,aV,ax,a9,ab,m,b,r13,aq,hlt,N,seval];exact P
  . exact⟨Xr _,rfl,by simp [ao,aS]⟩
 refine erA (n:=5) (rs:=[.tmp 2]) Tryz.e153 ?_;simp only [BZ,seval];refine step_ret j ?_;rintro r h ⟨rfl,P⟩;simp only [BZ,ab,seval];exact P
theorem rU64_ok(S:St M c hq L G){d:Nat}(C:L[i]? =some (d,.row (rdC s a f) 1))(hf:RdF f bad)(D:a<=s.length)(hs:s.length<=1000000):Ret zB 201 [ptrTo d] hq fun r h'=>r=.int .u64 (aS (aT s a bad 8).1:Nat)/\ ∃e,RdO c h' f bad e (aT s a bad 8).2.2/\St M c h' (L.set i (d,.row (rdC s (aT s a bad 8).2.1 e) 1)) G:=by
 have N:=S.ok;have u:=jc (s:=s) (a:=a) (n:=8) (bad:=bad);have j:Ret zB 227 [ptrTo d,.int .i64 8] hq fun r h'=>r=.int .u64 (aS (aT s a bad 8).1:Nat)/\ ∃e,RdO c h' f bad e (aT s a bad 8).2.2/\St M c h' (L.set i (d,.row (rdC s (aT s a bad 8).2.1 e) 1)) G:=by
  refine erA (n:=27) (rs:=[.tmp 4]) Tryz.e227 ?_;simp only [BZ,seval];refine step_ret (uh (n:=8) S C hf D hs (by decide)) ?_;rintro r h ⟨rfl,P⟩;generalize(aT s a bad 8).1=l at u;have O:=kp l;have F:256 ^l.length<=256 ^8:=XB (by decide) u;simp only [seval]at F;simp only [BZ,cw,seval];refine aD (fun(k:Nat) g h'=>k<=l.length/\h'=h/\g 5=sv l/\g 6=.int .u64 (aS (l.take k):Nat)/\g 12=.int .i64 l.length/\g 13=.int .i64 k) (fun k=>l.length-k) ?_ 0 _ _ ?_
  . rintro k H g h' ⟨Q,rfl,v,m,b,r13⟩;have w:am .i64 ((k:Int)+1)=((k+1:Nat):Int):=(by rw [wrap64]<;>omega);by_cases hlt:k<l.length
    . have R:=pB l[k];have I:=bJ (k:=.u64) rfl (n:=l[k].toNat) (by simp only [pw];omega);have J:am .i64 (8*(k:Int))=((8*k:Nat):Int):=(by rw [wrap64]<;>omega);have z:l[k].toNat*2 ^(8*k)<18446744073709551616:=(by have:k=0\/k=1\/k=2\/k=3\/k=4\/k=5\/k=6\/k=7:=(by omega);rcases this with rfl|rfl|rfl|rfl|rfl|rfl|rfl|rfl<;>simp only [seval]<;>omega);have K:aS (l.take k)<18446744073709551616:=(by have T:=kp (l.take k);have:256 ^(l.take k).length<=256 ^8:=XB (by decide) (by rw [Xn];omega);omega);have A:=fun(t:TypeId) (p q:Operand)=>yS (E:=zB) (t:=t) (p:=p) (q:=q) (k:=.u64) (k':=.i64) (x:=l[k].toNat) (y:=8*k) rfl (by show _<=64;omega);simp only [pw,XO z]at A;have B:=fun(t:TypeId) (p q:Operand)=>b_orN (E:=zB) (t:=t) (p:=p) (q:=q) (k:=.u64) (x:=aS (l.take k)) (y:=l[k].toNat*2 ^(8*k)) rfl K z;simp only [y9 hlt]at B;simp only [BZ,aV,ax,a9,v,m,b,r13,aq,hlt,jW Tryz.t9.1 hlt,I,J,A,B,w,seval];exact H (k+1) _ _ (by omega) ⟨by omega,rfl,by simp [ao,v,b]⟩
    . have o:k=l.length:=(by omega);subst o;rw [XE]at m;simp only [BZ,ab,m,b,r13,aq,hlt,seval];exact P
  . exact⟨Xr _,rfl,by simp [ao,aS]⟩
 refine erA (n:=5) (rs:=[.tmp 2]) Tryz.e201 ?_;simp only [BZ,seval];refine step_ret j ?_;rintro r h ⟨rfl,P⟩;simp only [BZ,ab,seval];exact P
theorem xh(S:St M c hq L G){d:Nat}(C:L[i]? =some (d,.row (rdC s a f) 1))(hf:RdF f bad)(D:a<=s.length)(hs:s.length<=1000000):Ret zB 134 [ptrTo d] hq fun r h'=>r=.int .i64 (get8 (aT s a bad 8).1)/\ ∃e,RdO c h' f bad e (aT s a bad 8).2.2/\St M c h' (L.set i (d,.row (rdC s (aT s a bad 8).2.1 e) 1)) G:=by
 have O:=S.ok;have u:=jc (s:=s) (a:=a) (n:=8) (bad:=bad);have j:Ret zB 191 [ptrTo d,.int .i64 8] hq fun r h'=>r=.int .i64 (get8 (aT s a bad 8).1)/\ ∃e,RdO c h' f bad e (aT s a bad 8).2.2/\St M c h' (L.set i (d,.row (rdC s (aT s a bad 8).2.1 e) 1)) G:=by
  refine erA (n:=28) (rs:=[.tmp 4]) Tryz.e191 ?_;simp only [BZ,seval];refine step_ret (uh (n:=8) S C hf D hs (by decide)) ?_;rintro r h ⟨rfl,P⟩;generalize(aT s a bad 8).1=l at u;have Q:=kp l;have F:256 ^l.length<=256 ^8:=XB (by decide) u;simp only [seval]at F;simp only [BZ,cw,seval];refine aD (fun(k:Nat) g h'=>k<=l.length/\h'=h/\g 5=sv l/\g 6=.int .u64 (aS (l.take k):Nat)/\g 12=.int .i64 l.length/\g 13=.int .i64 k) (fun k=>l.length-k) ?_ 0 _ _ ?_
  . rintro k H g h' ⟨R,rfl,v,m,b,r13⟩;have w:am .i64 ((k:Int)+1)=((k+1:Nat):Int):=(by rw [wrap64]<;>omega);by_cases hlt:k<l.length
    . have T:=pB l[k];have I:=bJ (k:=.u64) rfl (n:=l[k].toNat) (by simp only [pw];omega);have J:am .i64 (8*(k:Int))=((8*k:Nat):Int):=(by rw [wrap64]<;>omega);have z:l[k].toNat*2 ^(8*k)<18446744073709551616:=(by have:k=0\/k=1\/k=2\/k=3\/k=4\/k=5\/k=6\/k=7:=(by omega);rcases this with rfl|rfl|rfl|rfl|rfl|rfl|rfl|rfl<;>simp only [seval]<;>omega);have K:aS (l.take k)<18446744073709551616:=(by have U:=kp (l.take k);have:256 ^(l.take k).length<=256 ^8:=XB (by decide) (by rw [Xn];omega);omega);have A:=fun(t:TypeId) (p q:Operand)=>yS (E:=zB) (t:=t) (p:=p) (q:=q) (k:=.u64) (k':=.i64) (x:=l[k].toNat) (y:=8*k) rfl (by show _<=64;omega);simp only [pw,XO z]at A;have B:=fun(t:TypeId) (p q:Operand)=>b_orN (E:=zB) (t:=t) (p:=p) (q:=q) (k:=.u64) (x:=aS (l.take k)) (y:=l[k].toNat*2 ^(8*k)) rfl K z;simp only [y9 hlt]at B;simp only [BZ,aV,ax,a9,v,m,b,r13,aq,hlt,jW Tryz.t9.1 hlt,I,J,A,B,w,seval];exact H (k+1) _ _ (by omega) ⟨by omega,rfl,by simp [ao,v,b]⟩
    . have o:k=l.length:=(by omega);subst o;rw [XE]at m;have N:am .i64 ((aS l:Nat):Int)=_:=wrap_i64 (by omega);simp only [BZ,aV,ax,a9,ab,m,b,r13,aq,hlt,N,seval];exact⟨rfl,P⟩
  . exact⟨Xr _,rfl,by simp [ao,aS]⟩
 refine erA (n:=5) (rs:=[.tmp 2]) Tryz.e134 ?_;simp only [BZ,seval];refine step_ret j ?_;rintro r h ⟨rfl,P⟩;simp only [BZ,ab,seval];exact P
theorem CZ{b:Hp}(S:St M b hq L G){c:Nat}(e:L[i]? =some (c,.row (rdC s a f) 1))(hf:RdF f bad)(g:a<=s.length)(hs:s.length<=1000000)(j:n<=10000000):Ret zB 157 [ptrTo c,.int .i64 (n:Nat)] hq fun r h'=>r=sv (aT s a bad n).1/\ ∃d,RdO b h' f bad d (aT s a bad n).2.2/\St M b h' (L.set i (c,.row (rdC s (aT s a bad n).2.1 d) 1)) G:=by
 have k:=S.ok;refine erA (n:=8) (rs:=[.tmp 4]) Tryz.e157 ?_;simp only [BZ,seval];refine step_ret (uh S e hf g hs j) ?_;rintro r h ⟨rfl,P⟩;simp only [BZ,ab,seval];exact P
theorem rAt_ok{b:Hp}(d:OZ b){c:Nat}(R:Row b c (rdC s a f) 1):cj zB 152 [ptrTo c] b (.int .i64 (a:Nat)):=by have S:=Si d;refine erA (n:=9) (rs:=[.tmp 2]) Tryz.e152 ?_;simp only [BZ,ab,R.load1 (o:=1) rfl,seval];exact S.gr
theorem rLeft_ok{b:Hp}(d:OZ b){c:Nat}(R:Row b c (rdC s a f) 1)(g:a<=s.length)(hs:s.length<=1000000):cj zB 156 [ptrTo c] b (.int .i64 (s.length-a:Nat)):=by
 have S:=Si d;have e:am .i64 ((s.length:Int)-(a:Int))=((s.length-a:Nat):Int):=by rw [wrap64]<;>omega
 refine erA (n:=15) (rs:=[.tmp 2]) Tryz.e156 ?_;simp only [BZ,seval];refine av (aB rfl) (q:=0) (ps:=[]) (by kernel_rfl) ?_;simp only [BZ,cls,ab,R.load1 (o:=0) rfl,R.load1 (o:=1) rfl,cw,e,seval];exact S.gr
end Go.Ab
