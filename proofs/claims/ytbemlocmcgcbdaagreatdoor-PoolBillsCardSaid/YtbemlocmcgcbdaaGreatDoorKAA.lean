/-
  Shared texts of this claim.
-/
import Derived.Laws.AppendOwn
import Derived.Below
import Derived.Laws.StructEq
import Derived.ChangeKeysEq
import Derived.Calls
import Derived.Laws.Cells
import Derived.Laws.Entries
set_option linter.unusedVariables false
noncomputable section
set_option linter.defProp false
namespace Cx
open Go
def zyx{α:Type _}{a b:α}:cond false a b=b:=rfl
def zyy{α:Type _}{a b:α}:cond true a b=a:=rfl
def zyz{α:Sort _}{a:α}:a=a:=_root_.id rfl
def au:type_of% @Bool.and_eq_true:=@Bool.and_eq_true
def az:type_of% @Option.bind_eq_some_iff:=@Option.bind_eq_some_iff
def aB:type_of% @Option.map_eq_some_iff:=@Option.map_eq_some_iff
def aD:type_of% @Nat.eq_of_beq_eq_true:=@Nat.eq_of_beq_eq_true
def aH:type_of% @List.getD_eq_getElem?_getD:=@List.getD_eq_getElem?_getD
def aY:type_of% @List.getElem?_eq_getElem:=@List.getElem?_eq_getElem
def aZ:type_of% @Nat.le_refl:=@Nat.le_refl
def bj:type_of% @Option.some.injEq:=@Option.some.injEq
def bQ:type_of% @List.getElem_mem:=@List.getElem_mem
def cd:type_of% @List.mem_map:=@List.mem_map
def cq:type_of% @List.getElem?_map:=@List.getElem?_map
def cv:type_of% @List.mem_cons:=@List.mem_cons
def cM:type_of% @List.all_eq_true:=@List.all_eq_true
def dK:type_of% @List.mem_filter:=@List.mem_filter
def dX:type_of% @List.length_map:=@List.length_map
def dY:type_of% @List.length_take:=@List.length_take
def dZ:type_of% @List.mem_append:=@List.mem_append
def eA:type_of% @Array.getElem?_eq_some_iff:=@Array.getElem?_eq_some_iff
def eO:type_of% @List.getElem?_eq_some_iff:=@List.getElem?_eq_some_iff
def fb:type_of% @Nat.le_trans:=@Nat.le_trans
def fw:type_of% @List.getElem_of_mem:=@List.getElem_of_mem
def fy:type_of% @List.mem_cons_of_mem:=@List.mem_cons_of_mem
def fQ:type_of% @List.mem_cons_self:=@List.mem_cons_self
def fR:type_of% @List.mem_range:=@List.mem_range
def gp:type_of% @Array.getD_eq_getD_getElem?:=@Array.getD_eq_getD_getElem?
def iy:type_of% @List.map_cons:=@List.map_cons
def iQ:type_of% @List.getElem?_take:=@List.getElem?_take
def iS:type_of% @List.take_succ_eq_append_getElem:=@List.take_succ_eq_append_getElem
def jq:type_of% @List.getElem?_drop:=@List.getElem?_drop
def jr:type_of% @List.mem_append_left:=@List.mem_append_left
def jF:type_of% @Array.getElem?_eq_getElem:=@Array.getElem?_eq_getElem
def jG:type_of% @List.mem_append_right:=@List.mem_append_right
def j5:type_of% @Bool.or_eq_true:=@Bool.or_eq_true
def j7:type_of% @List.getElem?_eq_none:=@List.getElem?_eq_none
def j9:type_of% @List.mem_of_getElem?:=@List.mem_of_getElem?
def ka:type_of% @Nat.add_mul:=@Nat.add_mul
def kc:type_of% @Nat.mul_le_mul_right:=@Nat.mul_le_mul_right
def ke:type_of% @Nat.zero_add:=@Nat.zero_add
def kf:type_of% @Nat.zero_le:=@Nat.zero_le
def kJ:type_of% @List.length_filter_le:=@List.length_filter_le
def lu:type_of% @Nat.beq_refl:=@Nat.beq_refl
def lx:type_of% @Nat.le_of_ble_eq_true:=@Nat.le_of_ble_eq_true
def ly:type_of% @Nat.lt_of_lt_of_le:=@Nat.lt_of_lt_of_le
def lz:type_of% @Option.getD_some:=@Option.getD_some
def lC:type_of% @Option.map_some:=@Option.map_some
def l6:type_of% @Bool.not_eq_true':=@Bool.not_eq_true'
def l7:type_of% @Int.le_refl:=@Int.le_refl
def l9:type_of% @Nat.add_zero:=@Nat.add_zero
def mF:type_of% @List.getElem?_append:=@List.getElem?_append
def mG:type_of% @List.length_append:=@List.length_append
def mH:type_of% @Nat.min_eq_left:=@Nat.min_eq_left
def nH:type_of% @List.getElem?_append_left:=@List.getElem?_append_left
def nI:type_of% @List.getElem?_append_right:=@List.getElem?_append_right
def nJ:type_of% @List.map_map:=@List.map_map
def px:type_of% @List.length_cons:=@List.length_cons
def py:type_of% @List.map_append:=@List.map_append
def pz:type_of% @Prod.mk.injEq:=@Prod.mk.injEq
def qx:type_of% @Array.getElem?_toList:=@Array.getElem?_toList
def qy:type_of% @Array.mem_of_getElem?:=@Array.mem_of_getElem?
def qz:type_of% @Bool.cond_eq_ite:=@Bool.cond_eq_ite
def qB:type_of% @Int.eq_ofNat_of_zero_le:=@Int.eq_ofNat_of_zero_le
def qC:type_of% @List.append_assoc:=@List.append_assoc
def qD:type_of% @List.getD_cons_zero:=@List.getD_cons_zero
def qE:type_of% @List.nodup_cons:=@List.nodup_cons
def qF:type_of% @Nat.blt_eq:=@Nat.blt_eq
def qG:type_of% @Nat.mod_lt:=@Nat.mod_lt
def sr:type_of% @Bool.false_and:=@Bool.false_and
def sv:type_of% @List.all_cons:=@List.all_cons
def sw:type_of% @List.foldl_append:=@List.foldl_append
def sy:type_of% @List.getElem?_range:=@List.getElem?_range
def sA:type_of% @Nat.add_assoc:=@Nat.add_assoc
def sB:type_of% @Option.bind_some:=@Option.bind_some
def uh:type_of% @Bool.eq_iff_iff:=@Bool.eq_iff_iff
def ui:type_of% @Bool.or_true:=@Bool.or_true
def uk:type_of% @Int.mul_nonneg:=@Int.mul_nonneg
def um:type_of% @List.map_congr_left:=@List.map_congr_left
def uo:type_of% @Option.some.inj:=@Option.some.inj
def vB:type_of% @Classical.byContradiction:=@Classical.byContradiction
def vD:type_of% @List.append_nil:=@List.append_nil
def vE:type_of% @List.ext_getElem?:=@List.ext_getElem?
def vF:type_of% @List.flatMap_cons:=@List.flatMap_cons
def vG:type_of% @List.foldl_cons:=@List.foldl_cons
def vH:type_of% @List.length_eq_zero_iff:=@List.length_eq_zero_iff
def xQ:type_of% @Int.toNat_natCast:=@Int.toNat_natCast
def xR:type_of% @List.any_eq_true:=@List.any_eq_true
def xS:type_of% @List.find?_eq_none:=@List.find?_eq_none
def xT:type_of% @List.getElem?_toArray:=@List.getElem?_toArray
def xU:type_of% @List.map_id:=@List.map_id
def xV:type_of% @List.mem_flatMap:=@List.mem_flatMap
def xW:type_of% @List.nil_append:=@List.nil_append
def xX:type_of% @List.pairwise_cons:=@List.pairwise_cons
def xY:type_of% @List.take_of_length_le:=@List.take_of_length_le
def xZ:type_of% @Nat.div_lt_iff_lt_mul:=@Nat.div_lt_iff_lt_mul
def x9:type_of% @Nat.mul_comm:=@Nat.mul_comm
def ya:type_of% @Nat.two_pow_pos:=@Nat.two_pow_pos
def yb:type_of% @Ne.symm:=@Ne.symm
def AP:type_of% @Array.length_toList:=@Array.length_toList
def AQ:type_of% @Array.toList_inj:=@Array.toList_inj
def AR:type_of% @Array.toList_map:=@Array.toList_map
def AS:type_of% @Bool.and_false:=@Bool.and_false
def AT:type_of% @Bool.false_eq_true:=@Bool.false_eq_true
def AU:type_of% @Bool.true_and:=@Bool.true_and
def AZ:type_of% @Int.tdiv_eq_ediv_of_nonneg:=@Int.tdiv_eq_ediv_of_nonneg
def A0:type_of% @List.getD_cons_succ:=@List.getD_cons_succ
def A1:type_of% @List.getElem?_of_mem:=@List.getElem?_of_mem
def A2:type_of% @List.length_nil:=@List.length_nil
def A3:type_of% @List.mem_filterMap:=@List.mem_filterMap
def A4:type_of% @List.mem_map_of_mem:=@List.mem_map_of_mem
def A5:type_of% @List.mem_singleton:=@List.mem_singleton
def A6:type_of% @Nat.div_add_mod:=@Nat.div_add_mod
def Ei:type_of% @Array.ext':=@Array.ext'
def Ej:type_of% @Array.getElem?_setIfInBounds:=@Array.getElem?_setIfInBounds
def Ek:type_of% @Bool.true_or:=@Bool.true_or
def En:type_of% @List.filter_cons:=@List.filter_cons
def Eo:type_of% @List.getElem?_take_of_lt:=@List.getElem?_take_of_lt
def Ep:type_of% @List.length_pos_iff:=@List.length_pos_iff
def Er:type_of% @List.mem_of_find?_eq_some:=@List.mem_of_find?_eq_some
def Es:type_of% @Nat.add_comm:=@Nat.add_comm
def Et:type_of% @Nat.div_add_mod':=@Nat.div_add_mod'
def Eu:type_of% @Nat.eq_zero_or_pos:=@Nat.eq_zero_or_pos
def Ev:type_of% @Nat.mul_le_mul:=@Nat.mul_le_mul
def I7:type_of% @Classical.em:=@Classical.em
def I9:type_of% @Function.comp_def:=@Function.comp_def
def Jc:type_of% @Int.add_mul:=@Int.add_mul
def Jd:type_of% @Int.le_trans:=@Int.le_trans
def Je:type_of% @List.cons_append:=@List.cons_append
def Jf:type_of% @List.getElem?_set:=@List.getElem?_set
def Jg:type_of% @List.nodup_append:=@List.nodup_append
def Jh:type_of% @List.pairwise_map:=@List.pairwise_map
def Ji:type_of% @List.takeWhile_sublist:=@List.takeWhile_sublist
def Jj:type_of% @List.take_append_drop:=@List.take_append_drop
def Jk:type_of% @List.take_length:=@List.take_length
def Jm:type_of% @Nat.lt_or_ge:=@Nat.lt_or_ge
def Jn:type_of% @Nat.mul_one:=@Nat.mul_one
def Pp:type_of% @Array.eq_empty_of_size_eq_zero:=@Array.eq_empty_of_size_eq_zero
def Pq:type_of% @Array.getElem?_modify:=@Array.getElem?_modify
def Pr:type_of% @Bool.or_false:=@Bool.or_false
def Pv:type_of% @Int.ediv_le_ediv:=@Int.ediv_le_ediv
def Pw:type_of% @Int.ediv_nonneg:=@Int.ediv_nonneg
def Px:type_of% @Int.mul_le_mul:=@Int.mul_le_mul
def Py:type_of% @Int.tmod_eq_emod_of_nonneg:=@Int.tmod_eq_emod_of_nonneg
def Pz:type_of% @List.eq_nil_of_length_eq_zero:=@List.eq_nil_of_length_eq_zero
def PA:type_of% @List.ext_getElem:=@List.ext_getElem
def PB:type_of% @List.filter_append:=@List.filter_append
def PD:type_of% @List.find?_cons:=@List.find?_cons
def PF:type_of% @List.find?_some:=@List.find?_some
def PG:type_of% @List.getElem?_cons_zero:=@List.getElem?_cons_zero
def PH:type_of% @List.pairwise_iff_getElem:=@List.pairwise_iff_getElem
def PJ:type_of% @List.range'_succ:=@List.range'_succ
def PK:type_of% @List.range_eq_range':=@List.range_eq_range'
def PL:type_of% @List.range_succ:=@List.range_succ
def PM:type_of% @List.take_take:=@List.take_take
def PN:type_of% @Nat.le_div_iff_mul_le:=@Nat.le_div_iff_mul_le
def PO:type_of% @Nat.mod_eq_of_lt:=@Nat.mod_eq_of_lt
def PQ:type_of% @Nat.pow_add:=@Nat.pow_add
def PR:type_of% @Nat.sub_self:=@Nat.sub_self
def aaS:type_of% @Array.getElem?_append_left:=@Array.getElem?_append_left
def aaT:type_of% @Array.getElem?_setIfInBounds_ne:=@Array.getElem?_setIfInBounds_ne
def aaU:type_of% @Array.getElem_mem:=@Array.getElem_mem
def aaV:type_of% @Array.mem_filter:=@Array.mem_filter
def aaW:type_of% @Array.size_ofFn:=@Array.size_ofFn
def aaX:type_of% @Bool.eq_false_iff:=@Bool.eq_false_iff
def aaY:type_of% @Bool.or_eq_false_iff:=@Bool.or_eq_false_iff
def aaZ:type_of% @Classical.choose_spec:=@Classical.choose_spec
def aa3:type_of% @Int.mul_le_mul_of_nonneg_left:=@Int.mul_le_mul_of_nonneg_left
def aa6:type_of% @List.drop_eq_nil_iff:=@List.drop_eq_nil_iff
def aa7:type_of% @List.eq_nil_iff_forall_not_mem:=@List.eq_nil_iff_forall_not_mem
def aa8:type_of% @List.find?_append:=@List.find?_append
def aa9:type_of% @List.flatten_cons:=@List.flatten_cons
def aba:type_of% @List.foldl_map:=@List.foldl_map
def abb:type_of% @List.getElem?_cons_succ:=@List.getElem?_cons_succ
def abc:type_of% @List.getElem?_replicate:=@List.getElem?_replicate
def abd:type_of% @List.getElem?_take_eq_none:=@List.getElem?_take_eq_none
def abe:type_of% @List.isEmpty_iff:=@List.isEmpty_iff
def abf:type_of% @List.length_range:=@List.length_range
def abg:type_of% @List.mapM_cons:=@List.mapM_cons
def abh:type_of% @List.mem_of_mem_take:=@List.mem_of_mem_take
def abi:type_of% @List.nodup_range:=@List.nodup_range
def abj:type_of% @List.pairwise_append:=@List.pairwise_append
def abk:type_of% @Nat.div_le_self:=@Nat.div_le_self
def abl:type_of% @Nat.lt_of_le_of_lt:=@Nat.lt_of_le_of_lt
def abm:type_of% @Nat.lt_of_not_le:=@Nat.lt_of_not_le
def abn:type_of% @Nat.mul_assoc:=@Nat.mul_assoc
def abo:type_of% @Nat.mul_div_mul_right:=@Nat.mul_div_mul_right
def abq:type_of% @Option.isSome_iff_exists:=@Option.isSome_iff_exists
def abr:type_of% @Option.map_map:=@Option.map_map
def ak6:type_of% @Int.fdiv_eq_ediv_of_nonneg:=@Int.fdiv_eq_ediv_of_nonneg
def ak7:type_of% @Int.mul_le_mul_of_nonneg_right:=@Int.mul_le_mul_of_nonneg_right
def ala:type_of% @List.drop_eq_getElem_cons:=@List.drop_eq_getElem_cons
def alb:type_of% @List.mem_take_iff_getElem:=@List.mem_take_iff_getElem
def ald:type_of% @Nat.add_mul_mod_self_right:=@Nat.add_mul_mod_self_right
inductive D where
 |v (x:Value)
 |agg (cs:List D)
 |list (xs:List D)
 |map (es:List (D×D))
 |ref (d:D)
 |clo (f:Nat) (caps:List D)
 |tup (ds:List D)
 |none
 deriving Inhabited
namespace D
def int (n:Int):D:=.v (.int .i64 n)
def bool (b:Bool):D:=.v (.bool b)
def i:D->Int|.v (.int _ n)=>n|_=>0
def b:D->Bool|.v (.bool x)=>x|_=>false
def s:D->ByteArray|.v (.string x)=>x|_=>ByteArray.empty
def cells:D->List D|.agg cs=>cs|d=>[d]
def c (d:D)(k:Nat):D:=d.cells.getD k .none
def l:D->List D|.list xs=>xs|_=>[]
def m:D->List (D×D)|.map es=>es|_=>[]
def tget:D->Nat->D|.tup ds,k=>ds.getD k .none|_,_=>.none
def deref:D->D|.ref d=>d|_=>.none
def fn:D->Nat|.clo f _=>f|_=>0
def caps:D->List D|.clo _ cs=>cs|_=>[]
end D
inductive Ty where
 |int (k:IntKind)
 |bool
 |str
 |agg (ts:List Ty)
 |slice (e:Ty)
 |nils (e:Ty)
 /--a slice Ea is nil if it is empty-/
 |nsl (e:Ty)
 |map (k e:Ty)
 |ref (t:Ty)
 |fn (args:List Ty) (res:Ty)
 |tup (ts:List Ty)
 |trm
 deriving Inhabited,Repr
def Ty.size:Ty->Nat
 |.agg ts=>ts.length
 |.trm=>3
 |_=>1
def Ty.one:Ty->Bool
 |.agg _|.tup _|.trm=>false
 |_=>true
def Ty.rowT:Ty->Bool
 |.agg _=>true
 |_=>false
mutual
def Ty.beq:Ty->Ty->Bool
 |.int a,.int b=>a==b
 |.bool,.bool|.str,.str|.trm,.trm=>true
 |.fn a r,.fn b s=>Ty.beqs a b&&Ty.beq r s
 |.agg a,.agg b=>Ty.beqs a b
 |.tup a,.tup b=>Ty.beqs a b
 |.slice a,.slice b=>Ty.beq a b
 |.nils a,.nils b=>Ty.beq a b
 |.nsl a,.nsl b=>Ty.beq a b
 |.ref a,.ref b=>Ty.beq a b
 |.map a b,.map c d=>Ty.beq a c&&Ty.beq b d
 |_,_=>false
def Ty.beqs:List Ty->List Ty->Bool
 |[],[]=>true
 |a::aa,b::bs=>Ty.beq a b&&Ty.beqs aa bs
 |_,_=>false
end
mutual
def Ty.beq_eq:∀a b:Ty,Ty.beq a b=true->a=b
 |.int a,b,h=>by cases b<;>simp_all [Ty.beq]
 |.bool,b,h=>by cases b<;>simp_all [Ty.beq]
 |.str,b,h=>by cases b<;>simp_all [Ty.beq]
 |.trm,b,h=>by cases b<;>simp_all [Ty.beq]
 |.fn a r,b,h=>by
  cases b with
  |fn b s=>simp only[Ty.beq,au] at h;rw[Ty.beqs_eq a b h.1,Ty.beq_eq r s h.2]
  |_=>simp[Ty.beq] at h
 |.agg a,b,h=>by
  cases b with
  |agg b=>simp only[Ty.beq] at h;rw[Ty.beqs_eq a b h]
  |_=>simp[Ty.beq] at h
 |.tup a,b,h=>by
  cases b with
  |tup b=>simp only[Ty.beq] at h;rw[Ty.beqs_eq a b h]
  |_=>simp[Ty.beq] at h
 |.slice a,b,h=>by
  cases b with
  |slice b=>simp only[Ty.beq] at h;rw[Ty.beq_eq a b h]
  |_=>simp[Ty.beq] at h
 |.nils a,b,h=>by
  cases b with
  |nils b=>simp only[Ty.beq] at h;rw[Ty.beq_eq a b h]
  |_=>simp[Ty.beq] at h
 |.nsl a,b,h=>by
  cases b with
  |nsl b=>simp only[Ty.beq] at h;rw[Ty.beq_eq a b h]
  |_=>simp[Ty.beq] at h
 |.ref a,b,h=>by
  cases b with
  |ref b=>simp only[Ty.beq] at h;rw[Ty.beq_eq a b h]
  |_=>simp[Ty.beq] at h
 |.map a c,b,h=>by
  cases b with
  |map b d=>simp only[Ty.beq,au] at h;rw[Ty.beq_eq a b h.1,Ty.beq_eq c d h.2]
  |_=>simp[Ty.beq] at h
def Ty.beqs_eq:∀a b:List Ty,Ty.beqs a b=true->a=b
 |[],b,h=>by cases b<;>simp_all [Ty.beqs]
 |x::a,b,h=>by
  cases b with
  |nil=>simp[Ty.beqs] at h
  |cons y b=>simp only[Ty.beqs,au] at h;rw[Ty.beq_eq x y h.1,Ty.beqs_eq a b h.2]
end
mutual
def Ty.beq_refl:∀a:Ty,Ty.beq a a=true
 |.int a=>by simp[Ty.beq]
 |.bool=>rfl
 |.str=>rfl
 |.trm=>rfl
 |.fn a r=>by simp only[Ty.beq,au];exact⟨Ty.beqs_refl a,Ty.beq_refl r⟩
 |.agg a=>by simp only[Ty.beq];exact Ty.beqs_refl a
 |.tup a=>by simp only[Ty.beq];exact Ty.beqs_refl a
 |.slice a=>by simp only[Ty.beq];exact Ty.beq_refl a
 |.nils a=>by simp only[Ty.beq];exact Ty.beq_refl a
 |.nsl a=>by simp only[Ty.beq];exact Ty.beq_refl a
 |.ref a=>by simp only[Ty.beq];exact Ty.beq_refl a
 |.map a b=>by simp only[Ty.beq,au];exact⟨Ty.beq_refl a,Ty.beq_refl b⟩
def Ty.beqs_refl:∀a:List Ty,Ty.beqs a a=true
 |[]=>rfl
 |x::a=>by simp only[Ty.beqs,au];exact⟨Ty.beq_refl x,Ty.beqs_refl a⟩
end
def Ty.trmA:Ty:=.agg [.int .i64,.int .i64,.slice .trm]
def Ty.unf:Ty->Ty
 |.trm=>.trmA
 |t=>t
def Ty.rol (t:Ty):Ty:=bif Ty.beq t .trmA then .trm else t
def Ty.unf_size (t:Ty):t.unf.size=t.size:=by cases t<;>rfl
def Ty.rol_size (t:Ty):t.rol.size=t.size:=by
 unfold Ty.rol;cases h:Ty.beq t .trmA with
 |true=>rw[Ty.beq_eq t .trmA h];rfl
 |false=>rfl
def Ty.unf_rol (t:Ty):t.rol.unf=t.unf:=by
 unfold Ty.rol;cases h:Ty.beq t .trmA with
 |true=>rw[Ty.beq_eq t .trmA h];rfl
 |false=>rfl
def Ty.unf_ro {t:Ty}(h:t.rowT=true\/t.one=true):t.unf=t:=by
 cases t with
 |trm=>simp[Ty.rowT,Ty.one] at h
 |_=>rfl
structure CSig where
 caps:List Ty
 args:List Ty
 res:Ty
 deriving Inhabited
structure Im where
 c:Nat->Nat->Option Value
 m:Nat->Option (List (Value×Value))
structure Im.le (V τ:Im):Prop where
 c:∀k o v,V.c k o=some v->τ.c k o=some v
 m:∀k es,V.m k=some es->τ.m k=some es
def Im.le.refl (V:Im):V.le V:=⟨λ_ _ _ h=>h,λ_ _ h=>h⟩
def Im.le.trans {a b c:Im}(h:a.le b)(k:b.le c):a.le c:=⟨λx y z e=>k.c _ _ _ (h.c x y z e),λx y e=>k.m _ _ (h.m x y e)⟩
def entriesOf (es:Array MapEntry):List (Value×Value):=es.toList.map λe=>(e.key,e.val)
def cw:List (Value×Value):=[(.nilIface,.nilIface)]
def mB:List (Value×Value):=[(.nilIface,.nilIface),(.nilIface,.nilIface)]
def xn:mB≠cw:=by intro h;cases h
def p5 (w:World)(k:Nat)(es:List (Value×Value)):Prop:=(es≠cw/\∃arr clock,w.heap[k]?=some (.map arr clock)/\entriesOf arr=es)\/(es=cw/\w.heap[k]?=some (.deferred (some [])))\/(es=mB/\∃cs T fz,w.heap[k]?=some (.cells cs T fz))
def p5.lt {w:World}{k:Nat}{es:List (Value×Value)}(h:p5 w k es):k<w.heap.size:=by
 rcases h with⟨_,_,_,h,_⟩|⟨_,h⟩|⟨_,_,_,_,h⟩<;>exact(eA.1 h).1
def p5.keep {w w':World}{k:Nat}{es:List (Value×Value)}(h:p5 w k es)(e:w'.heap[k]?=w.heap[k]?):p5 w' k es:=by
 unfold p5;rw[e];exact h
structure Im.ok (V:Im) (w:World):Prop where
 c:∀k o v,V.c k o=some v->w.cell? ⟨k,o,none⟩=some v
 m:∀k es,V.m k=some es->p5 w k es
 /--numbers can be stored to,but for a aLG (blocks 0 to 2)-/
 f:∀k o n,V.c k o=some (.int .i64 n)->k<=2\/w.frozen? ⟨k,o,none⟩=false
inductive Rep (cap:Nat->Option CSig) (V:Im):Ty->Value->D->Prop where
 |int (k:IntKind) (n:Int) (h1:k.min<=n) (h2:n<=k.max):Rep cap V (.int k) (.int k n) (.v (.int k n))
 |bool (b:Bool):Rep cap V .bool (.bool b) (.v (.bool b))
 |str (s:ByteArray) (h:s.size<=maxLen):Rep cap V .str (.string s) (.v (.string s))
 |agg (ts:List Ty) (vs:List Value) (ds:List D) (h1:vs.length=ts.length) (h2:ds.length=ts.length)
   (h:∀(i:Nat) (t:Ty),ts[i]?=some t->Rep cap V t (vs.getD i undef) (ds.getD i .none)) (ho:∀(i:Nat) (t:Ty),ts[i]?=some t->t.one=true):Rep cap V (.agg ts) (.agg vs.toArray) (.agg ds)
 |tup (ts:List Ty) (vs:List Value) (ds:List D) (h1:vs.length=ts.length) (h2:ds.length=ts.length)
   (h:∀(i:Nat) (t:Ty),ts[i]?=some t->Rep cap V t (vs.getD i undef) (ds.getD i .none)):Rep cap V (.tup ts) (.tuple vs.toArray) (.tup ds)
 |nil (e:Ty):Rep cap V (.slice e) (.slice none 0 0) (.list [])
 |emp (e:Ty) (a:Addr):Rep cap V (.slice e) (.slice (some a) 0 0) (.list [])
 |nils (e:Ty):Rep cap V (.nils e) (.slice none 0 0) (.list [])
 |nsl0 (e:Ty):Rep cap V (.nsl e) (.slice none 0 0) (.list [])
 |nsl (e:Ty) (k o n c:Nat) (xs:List D) (h:Rep cap V (.slice e) (.slice (some ⟨k,o,none⟩) n c) (.list xs)) (hx:xs≠[]):Rep cap V (.nsl e) (.slice (some ⟨k,o,none⟩) n c) (.list xs)
 |slice (e:Ty) (k o n c:Nat) (xs:List D) (vs:Nat->Value) (hn:xs.length=n) (hc:n<=c) (hm:c<=maxLen)
   (h:∀(i:Nat) (x:D),xs[i]?=some x->Rep cap V e.unf (vs i) x)
   (hv:∀(i j:Nat) (u:Value),i<n->(vs i).cells[j]?=some u->V.c k (o+i*e.size+j)=some u)
   (hz:e=.int .i64->V.m k=some mB):Rep cap V (.slice e) (.slice (some ⟨k,o,none⟩) n c) (.list xs)
 |mapnil (kt et:Ty):Rep cap V (.map kt et) (.map none) (.map [])
 |map (kt et:Ty) (r:Nat) (ix:List (Value×Value)) (es:List (D×D)) (hm:V.m r=some ix) (hl:es.length=ix.length) (hx:es.length<=maxLen)
   (hk:∀(i:Nat) (p:Value×Value) (q:D×D),ix[i]?=some p->es[i]?=some q->Rep cap V kt p.1 q.1)
   (he:∀(i:Nat) (p:Value×Value) (q:D×D),ix[i]?=some p->es[i]?=some q->Rep cap V et p.2 q.2):Rep cap V (.map kt et) (.map (some r)) (.map es)
 |ref (t:Ty) (k o:Nat) (v:Value) (d:D) (h:Rep cap V t v d) (hv:∀(j:Nat) (u:Value),v.cells[j]?=some u->V.c k (o+j)=some u):
   Rep cap V (.ref t) (.pointer (some ⟨k,o,none⟩)) (.ref d)
 |fn (f:Nat) (cs:CSig) (vs:List Value) (ds:List D) (hc:cap f=some cs) (h1:vs.length=cs.caps.length) (h2:ds.length=cs.caps.length)
   (h:∀(i:Nat) (t:Ty),cs.caps[i]?=some t->Rep cap V t (vs.getD i undef) (ds.getD i .none)):Rep cap V (.fn cs.args cs.res) (.func (.func f) #[] vs.toArray) (.clo f ds)
 |fnnil (aa:List Ty) (r:Ty):Rep cap V (.fn aa r) .nilFunc (.v .nilFunc)
def Rep.mono {cap:Nat->Option CSig}{V τ:Im}(hle:V.le τ){t:Ty}{v:Value}{d:D}(h:Rep cap V t v d):Rep cap τ t v d:=by
 induction h with
 |int k n h1 h2=>exact .int k n h1 h2
 |bool b=>exact .bool b
 |str s h=>exact .str s h
 |agg ts vs ds h1 h2 _ ho ih=>exact .agg ts vs ds h1 h2 ih ho
 |tup ts vs ds h1 h2 _ ih=>exact .tup ts vs ds h1 h2 ih
 |nil e=>exact .nil e
 |emp e a=>exact .emp e a
 |nils e=>exact .nils e
 |nsl0 e=>exact .nsl0 e
 |nsl e k o n c xs _ hx ih=>exact .nsl e k o n c xs ih hx
 |slice e k o n c xs vs hn hc hm _ hv hz ih=>exact .slice e k o n c xs vs hn hc hm ih (λi j u hi hu=>hle.c _ _ _ (hv i j u hi hu)) λe=>hle.m _ _ (hz e)
 |mapnil kt et=>exact .mapnil kt et
 |map kt et r ix es hm hl hx _ _ kX GH=>exact .map kt et r ix es (hle.m _ _ hm) hl hx kX GH
 |ref t k o v d _ hv ih=>exact .ref t k o v d ih λj u hu=>hle.c _ _ _ (hv j u hu)
 |fn f cs vs ds hc h1 h2 _ ih=>exact .fn f cs vs ds hc h1 h2 ih
 |fnnil aa r=>exact .fnnil aa r
def Im.drop (V:Im)(D:Nat):Im:=⟨V.c,λk=>if k=D then none else V.m k⟩
structure Im.leR (cap:Nat->Option CSig) (V τ:Im):Prop where
 rep:∀{t:Ty} {v:Value} {d:D},Rep cap V t v d->Rep cap τ t v d
 c:∀k o v,V.c k o=some v->τ.c k o=some v
def Im.le.leR {cap:Nat->Option CSig}{V τ:Im}(h:V.le τ):Im.leR cap V τ:=⟨λr=>r.mono h,h.c⟩
def GZ {cap:Nat->Option CSig}{V:Im}{kt:Ty}{ix:List (Value×Value)}{es:List (D×D)}(hl:es.length=ix.length)
 (hk:∀(i:Nat) (p:Value×Value) (q:D×D),ix[i]?=some p->es[i]?=some q->Rep cap V kt p.1 q.1):ix≠cw:=by
 rintro rfl
 match es,hl with
 |[q],_=>have:=hk 0 _ q rfl rfl;cases this
def agF {cap:Nat->Option CSig}{V:Im}{kt:Ty}{ix:List (Value×Value)}{es:List (D×D)}(hl:es.length=ix.length)
 (hk:∀(i:Nat) (p:Value×Value) (q:D×D),ix[i]?=some p->es[i]?=some q->Rep cap V kt p.1 q.1):ix≠mB:=by
 rintro rfl
 match es,hl with
 |[q,q'],_=>have:=hk 0 _ q rfl rfl;cases this
def p5.mp {w:World}{k:Nat}{es:List (Value×Value)}(h:p5 w k es)(h1:es≠cw)(h2:es≠mB):∃arr clock,w.heap[k]?=some (.map arr clock)/\entriesOf arr=es:=by
 rcases h with h|h|h
 .exact h.2
 .exact absurd h.1 h1
 .exact absurd h.1 h2
def Rep.drop {cap:Nat->Option CSig}{V:Im}{Dd:Nat}(hD:V.m Dd=some cw){t:Ty}{v:Value}{d:D}(h:Rep cap V t v d):Rep cap (V.drop Dd) t v d:=by
 induction h with
 |int k n h1 h2=>exact .int k n h1 h2
 |bool b=>exact .bool b
 |str s h=>exact .str s h
 |agg ts vs ds h1 h2 _ ho ih=>exact .agg ts vs ds h1 h2 ih ho
 |tup ts vs ds h1 h2 _ ih=>exact .tup ts vs ds h1 h2 ih
 |nil e=>exact .nil e
 |emp e a=>exact .emp e a
 |nils e=>exact .nils e
 |nsl0 e=>exact .nsl0 e
 |nsl e k o n c xs _ hx ih=>exact .nsl e k o n c xs ih hx
 |slice e k o n c xs vs hn hc hm _ hv hz ih=>
  refine .slice e k o n c xs vs hn hc hm ih hv λe=>?_;have ay:k≠Dd:=λe'=>by subst e';rw[hz e] at hD;exact xn (uo hD)
  simp[Im.drop,ay,hz e]
 |mapnil kt et=>exact .mapnil kt et
 |map kt et r ix es hm hl hx hk _ kX GH=>
  refine .map kt et r ix es ?_ hl hx kX GH;have ay:r≠Dd:=λe=>by subst e;rw[hm] at hD;cases hD;exact GZ hl hk rfl
  simp[Im.drop,ay,hm]
 |ref t k o v d _ hv ih=>exact .ref t k o v d ih hv
 |fn f cs vs ds hc h1 h2 _ ih=>exact .fn f cs vs ds hc h1 h2 ih
 |fnnil aa r=>exact .fnnil aa r
def Rep.unf {cap:Nat->Option CSig}{V:Im}{t:Ty}{v:Value}{d:D}(h:Rep cap V t v d):Rep cap V t.unf v d:=by
 cases t with
 |trm=>cases h
 |_=>exact h
def Rep.unf_rol {cap:Nat->Option CSig}{V:Im}{t:Ty}{v:Value}{d:D}(h:Rep cap V t v d):Rep cap V t.rol.unf v d:=by
 rw[Ty.unf_rol];exact h.unf
def Rep.size {cap:Nat->Option CSig}{V:Im}{t:Ty}{v:Value}{d:D}(h:Rep cap V t v d):v.cells.size=t.size:=by
 cases h<;>simp_all [Value.cells,Ty.size]
def Rep.oneCell {cap:Nat->Option CSig}{V:Im}{t:Ty}{v:Value}{d:D}(h:Rep cap V t v d)(ht:t.one=true):v.cells=#[v]/\v.oneCell'=true:=by
 cases h<;>simp_all [Value.cells,Ty.one,Value.oneCell']
def D.b_bool (x:Bool):(D.v (.bool x)).b=x:=rfl
def D.i_int (k:IntKind)(n:Int):(D.v (.int k n)).i=n:=rfl
def D.s_str (x:ByteArray):(D.v (.string x)).s=x:=rfl
def D.l_list (x:List D):(D.list x).l=x:=rfl
structure Env where
 r:Nat->D
 o:Nat->D
def bZ {α:Type}(f:Nat->α)(i:Nat)(x:α):Nat->α:=λj=>bif Nat.beq j i then x else f j
def fS {i j:Nat}(h:j≠i):Nat.beq j i=false:=by
 cases h':Nat.beq j i
 .rfl
 .exact absurd (aD h') h
def aS {α:Type}(f:Nat->α)(i:Nat)(x:α):bZ f i x i=x:=by simp[bZ]
def bJ {α:Type}(f:Nat->α){i j:Nat}(x:α)(h:j≠i):bZ f i x j=f j:=by simp[bZ,fS h]
def fq {α:Type}(f:Nat->α)(i j:Nat)(x:α):bZ f i x j=if j=i then x else f j:=by
 by_cases h:j=i
 .subst h;simp[bZ]
 .simp[bZ,fS h,h]
def Env.setR (O:Env)(t:Nat)(d:D):Env:={O with r:=bZ O.r t d}
def Env.setO (O:Env)(j:Nat)(d:D):Env:={O with o:=bZ O.o j d}
inductive PE where
 |r (t:Nat)|o (j:Nat)|con (d:D)
 |cell (e:PE) (i:Nat)
 |sub (e:PE) (off n:Nat)
 |setc (e:PE) (off:Nat) (x:PE)
 |mk (es:List PE)
 |ai (op:BinOp) (k:IntKind) (x y:PE)
 |ci (op:BinOp) (x y:PE)
 |cb (op:BinOp) (x y:PE)
 |cs (op:BinOp) (x y:PE)
 |sadd (x y:PE)
 |nt (x:PE)
 |conv (k:IntKind) (x:PE)
 |pick (c a b:PE)
 |llen (x:PE)|slen (x:PE)|mlen (x:PE)|bytes (x:PE)
 |nth (x i:PE)|idx (x i:PE)|sidx (x i:PE)|sok (x i:PE)
 |setn (x i:PE) (off:Nat) (y:PE)
 |app (x y:PE)|lst (es:List PE)|rep (n z:PE)
 |slc (x lo hi:PE)|slok (x lo hi:PE)
 |ref (x:PE)|deref (x:PE)
 |look (m k z:PE)|has (m k:PE)|put (m k v:PE)
 |mn (x y:PE)|mx (x y:PE)
 |tup (es:List PE)|tget (e:PE) (i:Nat)
 |clo (f:Nat) (es:List PE)
 |an (x y:PE)|imp (c:List (Nat×Bool)) (x:PE)
 deriving Inhabited
def bS (op:BinOp)(k:IntKind)(a b:Int):Int:=
 match op with
 |.add=>k.wrap (a+b)
 |.sub=>k.wrap (a-b)
 |.mul=>k.wrap (a*b)
 |.quo=>k.wrap (a.tdiv b)
 |.rem=>a.tmod b
 |.and=>k.wrap (BitVec.ofInt k.bits a&&& BitVec.ofInt k.bits b).toNat
 |.or=>k.wrap (BitVec.ofInt k.bits a|||BitVec.ofInt k.bits b).toNat
 |.xor=>k.wrap (BitVec.ofInt k.bits a^^^BitVec.ofInt k.bits b).toNat
 |.andNot=>k.wrap (BitVec.ofInt k.bits a&&& ~~~BitVec.ofInt k.bits b).toNat
 |.shl=>k.wrap (a*2^(min b.toNat k.bits))
 |.shr=>a.fdiv (2^(min b.toNat k.bits))
 |_=>0
def jJ (op:BinOp)(a b:Int):Bool:=
 match op with
 |.eql=>a==b|.neq=>a !=b|.lss=>decide (a<b)|.leq=>decide (a<=b)|.gtr=>decide (a>b)|.geq=>decide (a>=b)
 |_=>false
def Ch (op:BinOp)(x y:ByteArray):Bool:=
 let eq:=x.toList==y.toList
 let lt:=Op.bytesLess x.toList y.toList
 match op with
 |.eql=>eq|.neq=> !eq|.lss=>lt|.leq=>lt||eq|.gtr=> !(lt||eq)|.geq=> !lt
 |_=>false
def Cf (op:BinOp)(x y:Bool):Bool:=
 match op with
 |.eql=>x==y|.neq=> !(x==y)
 |_=>false
def zG:D->D->Bool
 |.v (.int _ a),.v (.int _ b)=>a==b
 |.v (.string a),.v (.string b)=>a==b
 |.v (.bool a),.v (.bool b)=>a==b
 |_,_=>false
def wN:List D->List D->Bool
 |[],[]=>true
 |a::aa,b::bs=>zG a b&&wN aa bs
 |_,_=>false
def ji (a b:D):Bool:=wN a.cells b.cells
def jR (k:D):List (D×D)->Option D
 |[]=>Option.none
 |e::es=>if ji k e.1 then some e.2 else jR k es
def gd (k v:D):List (D×D)->List (D×D)
 |[]=>[(k,v)]
 |e::es=>if ji k e.1 then(k,v)::es else e::gd k v es
def dI (xs:List D)(off:Nat)(ys:List D):List D:=xs.take off++ys++xs.drop (off+ys.length)
def xw (x:D)(off:Nat)(y:D):D:=
 match x with
 |.agg cs=>.agg (dI cs off y.cells)
 |_=>y
def holds (gs:List (Nat×Bool))(O:Env):Bool:=gs.all λg=>(O.r g.1).b==g.2
mutual
def PE.ev (O:Env):PE->D
 |.r t=>O.r t
 |.o j=>O.o j
 |.con d=>d
 |.cell e i=>(PE.ev O e).c i
 |.sub e off n=>.agg (((PE.ev O e).cells.drop off).take n)
 |.setc e off x=>.agg (dI (PE.ev O e).cells off (PE.ev O x).cells)
 |.mk es=>.agg (PE.evc O es)
 |.ai op k x y=>.v (.int k (bS op k (PE.ev O x).i (PE.ev O y).i))
 |.ci op x y=>.v (.bool (jJ op (PE.ev O x).i (PE.ev O y).i))
 |.cb op x y=>.v (.bool (Cf op (PE.ev O x).b (PE.ev O y).b))
 |.cs op x y=>.v (.bool (Ch op (PE.ev O x).s (PE.ev O y).s))
 |.sadd x y=>.v (.string ((PE.ev O x).s++(PE.ev O y).s))
 |.nt x=>.v (.bool (!(PE.ev O x).b))
 |.conv k x=>.v (.int k (k.wrap (PE.ev O x).i))
 |.pick c a b=>bif (PE.ev O c).b then PE.ev O a else PE.ev O b
 |.llen x=>.v (.int .i64 (PE.ev O x).l.length)
 |.slen x=>.v (.int .i64 (PE.ev O x).s.size)
 |.bytes x=>.list ((PE.ev O x).s.data.toList.map λb=>.v (.int .u8 b.toNat))
 |.mlen x=>.v (.int .i64 (PE.ev O x).m.length)
 |.nth x i=>(PE.ev O x).l.getD (PE.ev O i).i.toNat .none
 |.idx x i=>.v (.bool (decide (0<=(PE.ev O i).i/\(PE.ev O i).i<(PE.ev O x).l.length)))
 |.sidx x i=>.v (.int .u8 ((PE.ev O x).s.data.getD (PE.ev O i).i.toNat 0).toNat)
 |.sok x i=>.v (.bool (decide (0<=(PE.ev O i).i/\(PE.ev O i).i<(PE.ev O x).s.size)))
 |.setn x i off y=>.list ((PE.ev O x).l.set (PE.ev O i).i.toNat (xw ((PE.ev O x).l.getD (PE.ev O i).i.toNat .none) off (PE.ev O y)))
 |.app x y=>.list ((PE.ev O x).l++(PE.ev O y).l)
 |.lst es=>.list (PE.evs O es)
 |.rep n z=>.list (List.replicate (PE.ev O n).i.toNat (PE.ev O z))
 |.slc x lo hi=>.list (((PE.ev O x).l.take (PE.ev O hi).i.toNat).drop (PE.ev O lo).i.toNat)
 |.slok x lo hi=>.v (.bool (decide (0<=(PE.ev O lo).i/\(PE.ev O lo).i<=(PE.ev O hi).i/\(PE.ev O hi).i<=(PE.ev O x).l.length)))
 |.ref x=>.ref (PE.ev O x)
 |.deref x=>(PE.ev O x).deref
 |.look m k z=>(jR (PE.ev O k) (PE.ev O m).m).getD (PE.ev O z)
 |.has m k=>.v (.bool (jR (PE.ev O k) (PE.ev O m).m).isSome)
 |.put m k v=>.map (gd (PE.ev O k) (PE.ev O v) (PE.ev O m).m)
 |.mn x y=>bif decide ((PE.ev O y).i<(PE.ev O x).i) then PE.ev O y else PE.ev O x
 |.mx x y=>bif decide ((PE.ev O y).i>(PE.ev O x).i) then PE.ev O y else PE.ev O x
 |.tup es=>.tup (PE.evs O es)
 |.tget e i=>(PE.ev O e).tget i
 |.clo f es=>.clo f (PE.evs O es)
 |.an x y=>.v (.bool ((PE.ev O x).b&&(PE.ev O y).b))
 |.imp c x=>.v (.bool (!holds c O||(PE.ev O x).b))
def PE.evs (O:Env):List PE->List D
 |[]=>[]
 |e::es=>PE.ev O e::PE.evs O es
def PE.evc (O:Env):List PE->List D
 |[]=>[]
 |e::es=>(PE.ev O e).cells++PE.evc O es
end
def PE.evs_eq (O:Env)(es:List PE):PE.evs O es=es.map (PE.ev O):=by
 induction es with
 |nil=>rfl
 |cons e es ih=>simp[PE.evs,ih]
inductive PI where
 |setR (t:Nat) (e:PE)
 |setO (j:Nat) (e:PE)
 |chk (e:PE)
 |call (gs:List (Nat×Bool)) (dst:Nat) (f:Nat) (args:List PE)
 |callc (gs:List (Nat×Bool)) (dst:Nat) (e:PE) (args:List PE)
 |mcall (j:Nat) (f:Nat) (args:List PE)
 deriving Inhabited
abbrev aO:=Nat->List D->Option D
def PI.run (Z:aO)(O:Env):PI->Option Env
 |.setR t e=>some (O.setR t (e.ev O))
 |.setO j e=>some (O.setO j (e.ev O))
 |.chk e=>bif (e.ev O).b then some O else none
 |.call gs dst f args=>bif holds gs O then(Z f (PE.evs O args)).map (O.setR dst) else some O
 |.callc gs dst e args=>bif holds gs O then(match e.ev O with|.clo f caps=>(Z f (PE.evs O args++caps)).map (O.setR dst)|_=>none) else some O
 |.mcall j f args=>(Z f (PE.evs O args)).map (O.setO j)
def PI.runs (Z:aO):List PI->Env->Option Env
 |[],O=>some O
 |x::xs,O=>(x.run Z O).bind (PI.runs Z xs)
inductive PC where
 |skip
 |is (l:List PI)
 |seq (a b:PC)
 |ite (c:PE) (lr lo:List Nat) (a b:PC)
 |block (id:Nat) (lr lo:List Nat) (a:PC)
 |loop (lr lo:List Nat) (a:PC)
 |exit (id:Nat)
 |ret (e:PE)
 /--for each element of a list:qp ajQ 'ps' P2 its parts;rt:Eg a return in qp body aI0 back-/
 |each (e:PE) (ps lo:List Nat) (rt:Option PE) (a:PC)
 /--for each entry of a map,in aLK order:qp ajQ 'ps' P2 its parts 'aK7;J:Eg has ab2 seen,and qp map-/
 |meach (J:Nat) (ps cO lo:List Nat) (a:PC)
 deriving Inhabited
def cN:Nat:=1000000007
inductive Out where
 |next (O:Env)
 |exit (id:Nat) (O:Env)
 |ret (d:D)
def putL (f:Nat->D):List Nat->List D->Nat->D
 |i::is,x::xs=>bZ (putL f is xs) i x
 |_,_=>f
def Env.put (O:Env)(lr:List Nat)(vr:List D)(lo:List Nat)(vo:List D):Env:=⟨putL O.r lr vr,putL O.o lo vo⟩
def Env.join (O:Env)(lr lo:List Nat)(O':Env):Env:=O.put lr (lr.map O'.r) lo (lo.map O'.o)
def vf (f g:Nat->D)(l:List Nat)(t:Nat):putL f l (l.map g) t=if t∈l then g t else f t:=by
 induction l with
 |nil=>rfl
 |cons i is ih=>
  simp only[iy,putL,fq,ih,cv];by_cases h:t=i
  .subst h;simp
  .simp[h]
def fY (body:Env->Option Out)(O:Env)(lr lo:List Nat):Nat->List D->List D->Option Out
 |0,_,_=>none
 |n+1,vr,vo=>
  match body (O.put lr vr lo vo) with
  |some (.next O')=>fY body O lr lo n (lr.map O'.r) (lo.map O'.o)
  |x=>x
def partsOf (ps:List Nat)(x:D):List D:=(List.range ps.length).map x.tget
def gW (body:Env->Option Out)(O:Env)(ps lo:List Nat)(rt:Option PE):List D->List D->Option Out
 |[],vo=>some (.next (O.put [] [] lo vo))
 |x::xs,vo=>
  match body (O.put ps (partsOf ps x) lo vo) with
  |some (.next O')=>gW body O ps lo rt xs (lo.map O'.o)
  |some (.exit id O')=>bif Nat.beq id cN then rt.map (λe=>.ret (e.ev (O.put [] [] lo (lo.map O'.o)))) else some (.exit id (O.put [] [] lo (lo.map O'.o)))
  |_=>none
def mq (body:Env->Option Out)(O:Env)(J:Nat)(es:D)(ps cO lo:List Nat):List D->List D->List D->Option (List D)
 |[],_,vo=>some vo
 |x::xs,done,vo=>
  match body ((O.put ps (cO.map x.tget) lo vo).setO J (.tup [.list (done++[x]),es])) with
  |some (.next O')=>mq body O J es ps cO lo xs (done++[x]) (lo.map O'.o)
  |_=>none
def jm (es:D):List D:=es.m.map λp=>.tup [p.1,p.2]
def Nt (body:Env->Option Out)(O:Env)(J:Nat)(ps cO lo:List Nat)(vo:List D):Prop:=
 (O.o J).tget 0=.list []/\∀ys:List D,ys.Perm (jm ((O.o J).tget 1))->mq body O J ((O.o J).tget 1) ps cO lo ys [] (lo.map O.o)=some vo
open Classical in
def Nu (body:Env->Option Out)(O:Env)(J:Nat)(ps cO lo:List Nat):Option Out:=
 if h:∃vo,Nt body O J ps cO lo vo then some (.next (O.put [] [] lo h.choose)) else none
def Af {body:Env->Option Out}{O:Env}{J:Nat}{ps cO lo:List Nat}{x:Out}:Nu body O J ps cO lo=some x↔∃vo,Nt body O J ps cO lo vo/\x=.next (O.put [] [] lo vo):=by
 unfold Nu;constructor
 .intro h;split at h
  .rename_i hh;cases h;exact⟨_,hh.choose_spec,rfl⟩
  .cases h
 .rintro⟨vo,h,rfl⟩;have hh:∃vo,Nt body O J ps cO lo vo:=⟨vo,h⟩
  rw[dif_pos hh];have:=(hh.choose_spec.2 _ (List.Perm.refl _)).symm.trans (h.2 _ (List.Perm.refl _));rw[uo this]
def PC.ev (Z:aO)(n:Nat):PC->Env->Option Out
 |.skip,O=>some (.next O)
 |.is l,O=>(PI.runs Z l O).map .next
 |.seq a b,O=>
  match PC.ev Z n a O with
  |some (.next O')=>PC.ev Z n b O'
  |x=>x
 |.ite c lr lo a b,O=>
  match(bif (c.ev O).b then PC.ev Z n a O else PC.ev Z n b O) with
  |some (.next O')=>some (.next (O.join lr lo O'))
  |x=>x
 |.block id lr lo a,O=>
  match PC.ev Z n a O with
  |some (.next O')=>some (.next (O.join lr lo O'))
  |some (.exit bO O')=>bif Nat.beq bO id then some (.next (O.join lr lo O')) else some (.exit bO O')
  |x=>x
 |.loop lr lo a,O=>fY (PC.ev Z n a) O lr lo n (lr.map O.r) (lo.map O.o)
 |.exit id,O=>some (.exit id O)
 |.ret e,O=>some (.ret (e.ev O))
 |.each e ps lo rt a,O=>gW (PC.ev Z n a) O ps lo rt (e.ev O).l (lo.map O.o)
 |.meach J ps cO lo a,O=>Nu (PC.ev Z n a) O J ps cO lo
def PI.modR:PI->List Nat
 |.setR t _=>[t]|.call _ t _ _=>[t]|.callc _ t _ _=>[t]|_=>[]
def PI.modO:PI->List Nat
 |.setO j _=>[j]|.mcall j _ _=>[j]|_=>[]
def PC.modR:PC->List Nat
 |.skip=>[]|.is l=>l.flatMap PI.modR|.seq a b=>a.modR++b.modR|.ite _ lr _ a b=>lr++a.modR++b.modR
 |.block _ lr _ a=>lr++a.modR|.loop lr _ a=>lr++a.modR|.exit _=>[]|.ret _=>[]|.each ..=>[]|.meach ..=>[]
def PC.modO:PC->List Nat
 |.skip=>[]|.is l=>l.flatMap PI.modO|.seq a b=>a.modO++b.modO|.ite _ _ lo a b=>lo++a.modO++b.modO
 |.block _ _ lo a=>lo++a.modO|.loop _ lo a=>lo++a.modO|.exit _=>[]|.ret _=>[]|.each _ _ lo _ _=>lo|.meach _ _ _ lo _=>lo
structure Env.but (O O':Env) (mr mo:List Nat):Prop where
 r:∀t,t∉mr->O'.r t=O.r t
 o:∀t,t∉mo->O'.o t=O.o t
def Env.but.refl (O:Env)(mr mo:List Nat):O.but O mr mo:=⟨λ_ _=>rfl,λ_ _=>rfl⟩
def Env.but.trans {a b c:Env}{mr mo:List Nat}(h:a.but b mr mo)(k:b.but c mr mo):a.but c mr mo:=
 ⟨λt ht=>(k.r t ht).trans (h.r t ht),λt ht=>(k.o t ht).trans (h.o t ht)⟩
def Env.but.mono {a b:Env}{mr mo mr' mo':List Nat}(h:a.but b mr mo)(h1:∀t,t∈mr->t∈mr')(h2:∀t,t∈mo->t∈mo'):a.but b mr' mo':=
 ⟨λt ht=>h.r t λhm=>ht (h1 t hm),λt ht=>h.o t λhm=>ht (h2 t hm)⟩
def Env.but.join (O O':Env)(lr lo:List Nat):O.but (O.join lr lo O') lr lo:=
 ⟨λt ht=>by simp[Env.join,Env.put,vf,ht],λt ht=>by simp[Env.join,Env.put,vf,ht]⟩
def PI.run_but {Z:aO}{x:PI}{O O':Env}(h:x.run Z O=some O'):O.but O' x.modR x.modO:=by
 cases x with
 |setR t e=>simp only[PI.run,bj] at h;subst h;exact⟨λu hu=>by simp[PI.modR] at hu;simp[Env.setR,bJ _ _ hu],λ_ _=>rfl⟩
 |setO t e=>simp only[PI.run,bj] at h;subst h;exact⟨λ_ _=>rfl,λu hu=>by simp[PI.modO] at hu;simp[Env.setO,bJ _ _ hu]⟩
 |chk e=>
  cases hb:(e.ev O).b<;>simp[PI.run,hb] at h;subst h;exact .refl _ _ _
 |call gs dst f args=>
  cases hb:holds gs O<;>simp[PI.run,hb] at h
  .subst h;exact .refl _ _ _
  .obtain⟨d,_,rfl⟩:=h;exact⟨λu hu=>by simp[PI.modR] at hu;simp[Env.setR,bJ _ _ hu],λ_ _=>rfl⟩
 |callc gs dst f args=>
  cases hb:holds gs O<;>simp only[PI.run,hb,zyy,zyx] at h
  .cases h;exact .refl _ _ _
  .split at h
   case h_2=>cases h
   simp only[aB] at h;obtain⟨d,_,rfl⟩:=h;exact⟨λu hu=>by simp[PI.modR] at hu;simp[Env.setR,bJ _ _ hu],λ_ _=>rfl⟩
 |mcall j f args=>
  simp[PI.run] at h;obtain⟨d,_,rfl⟩:=h;exact⟨λ_ _=>rfl,λu hu=>by simp[PI.modO] at hu;simp[Env.setO,bJ _ _ hu]⟩
def PI.runs_but {Z:aO}:∀{l:List PI} {O O':Env},PI.runs Z l O=some O'->O.but O' (l.flatMap PI.modR) (l.flatMap PI.modO)
 |[],O,O',h=>by simp[PI.runs] at h;subst h;exact .refl _ _ _
 |x::xs,O,O',h=>by
  simp only[PI.runs,az] at h;obtain⟨ρ1,h1,h2⟩:=h;exact((PI.run_but h1).mono (by simp_all) (by simp_all)).trans ((PI.runs_but h2).mono (by simp_all) (by simp_all))
def Out.env?:Out->Option Env
 |.next O=>some O
 |.exit _ O=>some O
 |.ret _=>none
def auE {body:Env->Option Out}{mr mo:List Nat}{O:Env}{lr lo:List Nat}
 (hb:∀O x O',body O=some x->x.env?=some O'->O.but O' mr mo) (h1:∀t,t∈lr->t∈mr) (h2:∀t,t∈lo->t∈mo):
 ∀(n:Nat) (ρ1:Env) (x:Out) (O':Env),fY body O lr lo n (lr.map ρ1.r) (lo.map ρ1.o)=some x->x.env?=some O'->O.but O' mr mo:=by
 intro n
 induction n with
 |zero=>intro ρ1 x O' h;simp[fY] at h
 |succ n ih=>
  intro ρ1 x O' h he;have hj:O.but (O.put lr (lr.map ρ1.r) lo (lo.map ρ1.o)) mr mo:=(Env.but.join O ρ1 lr lo).mono h1 h2;simp only[fY] at h;split at h
  .rename_i ρ2 h3;exact ih ρ2 x O' h he
  .rename_i h3;exact hj.trans (hb _ x O' h he)
def acT {body:Env->Option Out}{O:Env}{ps lo:List Nat}{rt:Option PE}:∀{xs:List D} {ρ1 x O'},gW body O ps lo rt xs (lo.map (Env.o ρ1))=some x->x.env?=some O'->O.but O' [] lo
 |[],ρ1,x,O',h,he=>by
  simp only[gW,bj] at h;subst h;simp only[Out.env?,bj] at he;subst he;exact Env.but.join O ρ1 [] lo
 |y::xs,ρ1,x,O',h,he=>by
  simp only[gW] at h;split at h
  .exact acT h he
  .rename_i id ρ2 _;cases hb:Nat.beq id cN<;>simp only[hb,zyy,zyx] at h
   .cases h;simp only[Out.env?,bj] at he;subst he;exact Env.but.join O ρ2 [] lo
   .simp only[aB] at h;obtain⟨e,_,rfl⟩:=h;simp[Out.env?] at he
  .cases h
def VS (f:Nat->D):∀(l:List Nat) (vs:List D) (t:Nat),t∉l->putL f l vs t=f t
 |[],_,_,_=>rfl
 |_::_,[],_,_=>rfl
 |i::is,v::vs,t,h=>by
  simp only[putL];rw[bJ _ _ (λe=>h (by rw[e];exact fQ ..)),VS f is vs t λhm=>h (fy _ hm)]
def PC.ev_but {Z:aO}{n:Nat}:∀(c:PC) (O:Env) (x:Out) (O':Env),c.ev Z n O=some x->x.env?=some O'->O.but O' c.modR c.modO:=by
 intro c
 induction c with
 |skip=>intro O x O' h he;simp[PC.ev] at h;subst h;simp[Out.env?] at he;subst he;exact .refl _ _ _
 |is l=>
  intro O x O' h he;simp only[PC.ev,aB] at h;obtain⟨ρ1,h1,rfl⟩:=h;simp[Out.env?] at he;subst he;exact PI.runs_but h1
 |seq a b bx dw=>
  intro O x O' h he;simp only[PC.ev] at h;split at h
  .rename_i ρ1 h1;exact((bx O _ ρ1 h1 rfl).mono (by simp_all [PC.modR]) (by simp_all [PC.modO])).trans ((dw ρ1 x O' h he).mono (by simp_all [PC.modR]) (by simp_all [PC.modO]))
  .exact(bx O x O' h he).mono (by simp_all [PC.modR]) (by simp_all [PC.modO])
 |ite c lr lo a b bx dw=>
  intro O x O' h he;simp only[PC.ev] at h;split at h
  .rename_i ρ1 h1;simp at h;subst h;simp[Out.env?] at he;subst he;exact(Env.but.join O ρ1 lr lo).mono (by simp_all [PC.modR]) (by simp_all [PC.modO])
  .cases hb:(c.ev O).b<;>simp only[hb,zyy,zyx] at h
   .exact(dw O x O' h he).mono (by simp_all [PC.modR]) (by simp_all [PC.modO])
   .exact(bx O x O' h he).mono (by simp_all [PC.modR]) (by simp_all [PC.modO])
 |block id lr lo a bx=>
  intro O x O' h he;simp only[PC.ev] at h;split at h
  .rename_i ρ1 h1;simp at h;subst h;simp[Out.env?] at he;subst he;exact(Env.but.join O ρ1 lr lo).mono (by simp_all [PC.modR]) (by simp_all [PC.modO])
  .rename_i bO ρ1 h1;cases hb:Nat.beq bO id<;>simp only[hb,zyy,zyx] at h<;>simp at h<;>subst h<;>simp[Out.env?] at he<;>subst he
   .exact(bx O _ ρ1 h1 rfl).mono (by simp_all [PC.modR]) (by simp_all [PC.modO])
   .exact(Env.but.join O ρ1 lr lo).mono (by simp_all [PC.modR]) (by simp_all [PC.modO])
  .exact(bx O x O' h he).mono (by simp_all [PC.modR]) (by simp_all [PC.modO])
 |loop lr lo a bx=>
  intro O x O' h he;simp only[PC.ev] at h;exact auE (λO x O' h he=>(bx O x O' h he).mono (by simp_all [PC.modR]) (by simp_all [PC.modO])) (by simp_all [PC.modR]) (by simp_all [PC.modO]) n O x O' h he
 |exit id=>intro O x O' h he;simp[PC.ev] at h;subst h;simp[Out.env?] at he;subst he;exact .refl _ _ _
 |ret e=>intro O x O' h he;simp[PC.ev] at h;subst h;simp[Out.env?] at he
 |each e ps lo rt a bx=>intro O x O' h he;simp only[PC.ev] at h;exact acT h he
 |meach J ps cO lo a bx=>
  intro O x O' h he;simp only[PC.ev,Af] at h;obtain⟨vo,_,rfl⟩:=h;simp only[Out.env?,bj] at he;subst he;exact⟨λ_ _=>rfl,λt ht=>VS _ _ _ _ ht⟩
inductive AgC where
 |dat (t:Ty)
 |obj (j ver:Nat)
 deriving Inhabited
inductive Sh where
 |none
 |dat (t:Ty)
 |obj (j ver:Nat)
 |ptr (j ver off:Nat)
 |eptr (j ver size off:Nat)
 |opt (gs:List (Nat×Bool)) (s:Sh)
 /--qp function Ea aLD Eg is yielded-/
 |yv
 /--a closure of a function Ea has captured boxes aEg P2 still air own-/
 |fclo (f:Nat) (caps:List (Nat×Nat))
 /--a struct Ea was read aa it auz:rows and maps in it P2 still air own-/
 |agg (l:List AgC)
 deriving Inhabited
def AgC.sh:AgC->Sh
 |.dat t=>.dat t
 |.obj j ver=>.obj j ver
inductive Ob where
 |dead
 |fz (t:Ty)
 |fbox (t:Ty)
 |box (ag:Bool) (shs:List Sh)
 |row (T:TypeId) (e:Ty)
 |mp (kt et:Ty)
 /--an iterator over a map Ea is air own-/
 |it (kt et:Ty)
 /--Eg has ab2 yielded so far-/
 |tr
 deriving Inhabited
structure St where
 r:Nat->Sh
 o:Nat->Ob
 ver:Nat->Nat
def St.setR (S:St)(t:Nat)(s:Sh):St:={S with r:=bZ S.r t s}
def St.setO (S:St)(j:Nat)(ob:Ob):St:={S with o:=bZ S.o j ob}
def St.newO (S:St)(j:Nat)(ob:Ob):St:={S with o:=bZ S.o j ob,ver:=bZ S.ver j (S.ver j+1)}
inductive RC where
 |dat (t:Ty)
 |row (T:TypeId) (e:Ty)
 deriving Inhabited
inductive Mode where
 |dat
 |row (T:TypeId) (e:Ty)
 /--an iterator:Eg it has yielded auz in this place-/
 |it (J:Nat)
 /--qp result is a struct with rows of qp amS own-/
 |rows (l:List RC)
 /--a function Ea is handed qp amS own objects:qp aLd of its aKQ,qp objects-/
 |ob (shs:List Sh) (obs:List (Nat×Ob))
 deriving Inhabited
structure Sig where
 args:List Ty
 res:Ty
 mode:Mode
 deriving Inhabited
structure Ctx where
 P:Program
 cap:Nat->Option CSig
 sig:Nat->Option Sig
 axo:Nat->Option (TypeId×Ty×List Ty)
 glob:Nat->Option (Ty×D)
 /--ajQ to aEg no slice or map is assigned but aa a datum-/
 fr:List Nat:=[]
 /--fields of boxes Ea stay nil aLE aLj is aHn-/
 nh:List Nat:=[]
 /--an iterator:qp place of Eg has ab2 yielded,and qp types of Eg it aEu;to aLL it aEu-/
 yl:Option (Nat×List Ty):=none
 yv:Value:=undef
def Ty.flat:Ty->List Ty
 |.agg ts=>ts
 |.trm=>[.int .i64,.int .i64,.slice .trm]
 |t=>[t]
def uX (P:Program)(e:TypeId):Bool:=
 match P.underlying e with
 |some (.struct fs)=>
  match fs.toList with
  |[f0,f1,f2]=>
   (match P.underlying f0.type with|some (.int .i64)=>true|_=>false)&&(match P.underlying f1.type with|some (.int .i64)=>true|_=>false)&&
   (match P.underlying f2.type with|some (.slice e')=>Nat.beq e' e|_=>false)&&
   Nat.beq f0.offset 0&&Nat.beq f1.offset 1&&Nat.beq f2.offset 2&&Nat.beq (P.cellsOf f0.type) 1&&Nat.beq (P.cellsOf f1.type) 1&&Nat.beq (P.cellsOf f2.type) 1&&Nat.beq (P.cellsOf e) 3
  |_=>false
 |_=>false
def sf (P:Program):Nat->TypeId->Option Ty
 |0,_=>Option.none
 |n+1,t=>
  match P.underlying t with
  |some .bool=>some .bool
  |some (.int k)=>some (.int k)
  |some .string=>some .str
  |some (.slice e)=>bif uX P e then some (.slice .trm) else(sf P n e).map .slice
  |some (.map k e)=>(sf P n k).bind λk=>(sf P n e).map (.map k)
  |some (.pointer e)=>(sf P n e).map .ref
  |some (.func ps rs false)=>
   (ps.toList.mapM (sf P n)).bind λps=>
    match rs.toList with
    |[]=>some (.fn ps (.tup []))
    |[r]=>(sf P n r).map (.fn ps)
    |rs=>(rs.mapM (sf P n)).map λrs=>.fn ps (.tup rs)
  |some (.struct fs)=>(fs.toList.mapM λf=>sf P n f.type).map λts=>.agg (ts.flatMap Ty.flat)
  |some (.array len e)=>(sf P n e).map λt=>.agg ((List.replicate len t.flat).flatten)
  |some (.tuple es)=>(es.toList.mapM (sf P n)).map .tup
  |_=>Option.none
def qu (P:Program)(t:TypeId):Option Ty:=sf P 12 t
mutual
def Ty.sub:Ty->Ty->Bool
 |.nils _,.slice _=>true
 |.nsl a,.slice b=>Ty.beq a b
 |.agg a,.agg b=>Ty.subs a b
 |.tup a,.tup b=>Ty.subs a b
 |a,b=>Ty.beq a b
def Ty.subs:List Ty->List Ty->Bool
 |[],[]=>true
 |a::aa,b::bs=>Ty.sub a b&&Ty.subs aa bs
 |_,_=>false
end
def Q7:Value->Option (Ty×D)
 |.int k n=>if k.min<=n/\n<=k.max then some (.int k,.v (.int k n)) else Option.none
 |.bool b=>some (.bool,.v (.bool b))
 |.string s=>if s.size<=maxLen then some (.str,.v (.string s)) else Option.none
 |.slice .none 0 0=>some (.nils .bool,.list [])
 |_=>Option.none
def sm:Ty->Option (Ty×D)
 |.int k=>some (.int k,.v (.int k 0))
 |.bool=>some (.bool,.v (.bool false))
 |.str=>some (.str,.v (.string ByteArray.empty))
 |.slice e=>some (.nils e,.list [])
 |.map k e=>some (.map k e,.map [])
 |.fn aa r=>some (.fn aa r,.v .nilFunc)
 |_=>Option.none
def qv:Ty->Option (Ty×D)
 |.agg ts=>(ts.mapM sm).map λzs=>(.agg (zs.map (·.1)),.agg (zs.map (·.2)))
 |t=>sm t
def AN:Ty->Value->Bool
 |.int k,.int k' n=>k==k'&&n==0
 |.bool,.bool b=> !b
 |.str,.string s=>s.size==0
 |.slice _,.slice .none 0 0=>true
 |.map ..,.map .none=>true
 |.fn ..,.nilFunc=>true
 |_,_=>false
def Eh:List Ty->List Value->Bool
 |[],[]=>true
 |t::ts,v::vs=>AN t v&&Eh ts vs
 |_,_=>false
def j4:Ty->Value->Bool
 |.agg ts,.agg vs=>Eh ts vs.toList
 |.agg _,_=>false
 |t,v=>AN t v
def OX (a b:List (Nat×Bool)):Bool:=a.all λg=>b.any λh=>Nat.beq g.1 h.1&&(g.2==h.2)
def sc (S:St)(gs:List (Nat×Bool))(t:Nat):Sh:=
 match S.r t with
 |.opt bN s=>bif OX bN gs then s else .none
 |s=>s
def yo (S:St)(b:PE):List Sh->Nat->Option (List Ty×List PE)
 |[],_=>some ([],[])
 |s::r,i=>
  (yo S b r (i+1)).bind λx=>
   match s with
   |.dat t=>bif t.one then some (t::x.1,.cell b i::x.2) else Option.none
   |.obj j' ver=>
    bif Nat.beq ver (S.ver j') then
      match S.o j' with
      |.fz t=>some (t::x.1,.o j'::x.2)
      |_=>Option.none
    else Option.none
   |_=>Option.none
def use (C:Ctx)(S:St)(gs:List (Nat×Bool)):Operand->Option (Ty×PE)
 |.tmp t=>
  match sc S gs t with
  |.dat ty=>some (ty,.r t)
  |.obj j ver=>
   bif Nat.beq ver (S.ver j) then
        match S.o j with
        |.fz ty=>some (ty,.o j)
        |_=>Option.none
   else Option.none
  |.ptr j ver off=>
   bif Nat.beq ver (S.ver j)&&Nat.beq off 0 then
        match S.o j with
        |.fbox ty=>some (.ref ty,.ref (.o j))
        |_=>Option.none
   else Option.none
  |.agg l=>(yo S (.r t) (l.map AgC.sh) 0).map λx=>(.agg x.1,.mk x.2)
  |_=>Option.none
 |.const v=>(Q7 v).map λx=>(x.1,.con x.2)
 |.func f=>match C.cap f with
  |some ⟨[],aa,r⟩=>some (.fn aa r,.con (.clo f []))
  |_=>Option.none
 |.global g=>(C.glob g).map λx=>(.ref x.1,.con (.ref x.2))
def view (C:Ctx)(S:St)(gs:List (Nat×Bool))(x:Operand):Option (Ty×PE):=
 match use C S gs x with
 |some r=>some r
 |Option.none=>
  match x with
  |.tmp t=>
   match sc S gs t with
   |.obj j ver=>
    bif Nat.beq ver (S.ver j) then
          match S.o j with
          |.row _ e=>some (.slice e.rol,.o j)
          |.mp k e=>some (.map k e,.o j)
          |_=>Option.none
    else Option.none
   |_=>Option.none
  |_=>Option.none
abbrev jI:=Option (Sh×List PI)
def Jz:BinOp->Bool
 |.add|.sub|.mul|.quo|.rem|.and|.or|.xor|.andNot=>true
 |_=>false
def Cg:BinOp->Bool
 |.eql|.neq|.lss|.leq|.gtr|.geq=>true
 |_=>false
def sI (gs:List (Nat×Bool))(e:PE):PI:=.chk (match gs with|[]=>e|_=>.imp gs e)
def oQ:Int:=4294967296
def zK:Nat:=32768
def Uh (n:PE):PE:=.an (.ci .geq n (.con (.int 0))) (.ci .leq n (.con (.int oQ)))
def vA (inf:TypeInfo)(t:Ty):Bool:=
 match inf.zero with
 |some v=>j4 t v
 |Option.none=>false
def sL (P:Program)(T:TypeId)(e:Ty):Bool:=
 match P.info? T with
 |some i=>Nat.beq i.size e.size&&Nat.ble i.bytes zK&&Nat.ble 1 e.size&&vA i e
 |Option.none=>false
def ub (P:Program)(T:TypeId)(e:Ty):Bool:=
 match P.info? T with
 |some i=>Nat.beq i.size e.size
 |Option.none=>false
def ry (P:Program)(T:TypeId):Option Bool:=
 match P.underlying T with
 |some (.struct _)=>some true
 |some (.array ..)=>some true
 |some _=>some false
 |Option.none=>Option.none
def TG (P:Program)(T:TypeId):Bool:=
 match P.underlying T with
 |some .bool=>true
 |_=>false
def gN (S:St)(gs:List (Nat×Bool)):Operand->Sh
 |.tmp t=>sc S gs t
 |_=>.none
def tX:Operand->PE
 |.tmp t=>.r t
 |_=>.con .none
def aaI (C:Ctx)(S:St)(gs:List (Nat×Bool)):Option Operand->Option (Ty×PE)
 |Option.none=>some (Ty.int .i64,PE.con (.int 0))
 |some l=>use C S gs l
def aaH (C:Ctx)(S:St)(gs:List (Nat×Bool))(e:PE):Option Operand->Option (Ty×PE)
 |Option.none=>some (Ty.int .i64,PE.llen e)
 |some l=>use C S gs l
def z7 (C:Ctx)(S:St)(gs:List (Nat×Bool))(dst:Nat)(x:Operand):jI:=
 match use C S gs x with
 |some a=>some (.dat a.1,[.setR dst a.2])
 |Option.none=>
  match x with
  |.tmp t=>
   match sc S gs t with
   |.none=>Option.none
   |.opt ..=>Option.none
   |s=>some (s,[.setR dst (.r t)])
  |_=>Option.none
def VD (C:Ctx)(S:St)(gs:List (Nat×Bool))(dst:Nat)(c x y:Operand):jI:=
 match c with
 |.tmp t=>
  match sc S gs t with
  |.dat .bool=>
   (use C S ((t,true)::gs) x).bind λa=>(use C S ((t,false)::gs) y).bind λb=>
     bif Ty.beq a.1 b.1 then some (.dat a.1,[.setR dst (.pick (.r t) a.2 b.2)]) else Option.none
  |_=>Option.none
 |_=>Option.none
def np (P:Program)(K:TypeId):Ty->Bool
 |.int _=>match P.underlying K with|some (.int _)=>true|_=>false
 |.str=>match P.underlying K with|some .string=>true|_=>false
 |.bool=>match P.underlying K with|some .bool=>true|_=>false
 |_=>false
def afE (P:Program)(K:TypeId):Ty->Bool:=λ_=>false
def wO (P:Program)(K:TypeId)(t:Ty):Bool:=np P K t||afE P K t
def yR:Ty->PE->PE->Option PE
 |.int _,x,y=>some (.ci .eql x y)
 |.bool,x,y=>some (.cb .eql x y)
 |.str,x,y=>some (.cs .eql x y)
 |_,_,_=>Option.none
def yP (P:Program)(x y:PE)(b:Nat):List Field->Nat->List Ty->Option PE
 |[],_,[]=>some (.con (.v (.bool true)))
 |f::fs,i,t::ts=>
  bif (f.name != "_")&&Nat.beq f.offset i&&np P f.type t&&P.plainKey f.type then
   (yR t (.cell x (b+i)) (.cell y (b+i))).bind λe=>(yP P x y b fs (i+1) ts).map λr=>.an e r
  else Option.none
 |_,_,_=>Option.none
def at6 (P:Program)(f:Field)(i:Nat):Option Nat:=none
def yQ (P:Program)(x y:PE):List Field->Nat->List Ty->Option PE
 |[],_,[]=>some (.con (.v (.bool true)))
 |f::fs,i,ts=>
  match at6 P f i with
  |some n=>bif Nat.ble n ts.length then(yP P x y i (P.fieldsOf f.type).toList 0 (ts.take n)).bind λe=>(yQ P x y fs (i+n) (ts.drop n)).map λr=>.an e r else Option.none
  |none=>
   match ts with
   |t::ts=>
    bif (f.name != "_")&&Nat.beq f.offset i&&np P f.type t&&P.plainKey f.type then
     (yR t (.cell x i) (.cell y i)).bind λe=>(yQ P x y fs (i+1) ts).map λr=>.an e r
    else Option.none
   |[]=>Option.none
 |[],_,_::_=>Option.none
def Rp (P:Program)(T:TypeId):Bool:=(match P.underlying T with|some (.struct _)=>true|_=>false)&& !P.stoodInHeld T&& !P.eqGuardType P.depth T
def Vr (C:Ctx)(S:St)(gs:List (Nat×Bool))(dst:Nat)(op:BinOp)(T:TypeId)(x y:Operand):jI:=
 (use C S gs x).bind λa=>(use C S gs y).bind λb=>
    match a.1,b.1 with
    |.int k,.int k'=>
     bif op==.shl||op==.shr then some (.dat (.int k),[sI gs (.ci .geq b.2 (.con (.int 0))),.setR dst (.ai op k a.2 b.2)])
     else bif k==k' then
      bif op==.quo||op==.rem then some (.dat (.int k),[sI gs (.ci .neq b.2 (.con (.int 0))),.setR dst (.ai op k a.2 b.2)])
      else bif Jz op then some (.dat (.int k),[.setR dst (.ai op k a.2 b.2)])
      else bif Cg op then some (.dat .bool,[.setR dst (.ci op a.2 b.2)])
      else Option.none
     else Option.none
    |.bool,.bool=>bif (op==.eql||op==.neq)&&TG C.P T then some (.dat .bool,[.setR dst (.cb op a.2 b.2)]) else Option.none
    |.str,.str=>bif Cg op then some (.dat .bool,[.setR dst (.cs op a.2 b.2)]) else Option.none
    |.nsl _,.nils _=>(match C.P.underlying T with|some (.slice _)=>bif op==.eql||op==.neq then some (.dat .bool,[.setR dst (.ci op (.llen a.2) (.con (.int 0)))]) else Option.none|_=>Option.none)
    |.agg ts,.agg us=>bif (op==.eql||op==.neq)&&Ty.beqs ts us&&Rp C.P T then(yQ C.P a.2 b.2 (C.P.fieldsOf T).toList 0 ts).map λe=>(.dat .bool,[.setR dst (bif op==.eql then e else .nt e)]) else Option.none
    |_,_=>Option.none
def VF (C:Ctx)(S:St)(gs:List (Nat×Bool))(dst:Nat)(op:UnOp)(x:Operand):jI:=
 (use C S gs x).bind λa=>
    match op,a.1 with
    |.neg,.int k=>some (.dat (.int k),[.setR dst (.ai .sub k (.con (.v (.int k 0))) a.2)])
    |.not,.bool=>some (.dat .bool,[.setR dst (.nt a.2)])
    |_,_=>Option.none
def Vt (C:Ctx)(S:St)(gs:List (Nat×Bool))(dst:Nat)(s d:TypeId)(x:Operand):jI:=
 (use C S gs x).bind λa=>
    match C.P.underlying s,C.P.underlying d,a.1 with
    |some (.int _),some (.int k),.int _=>some (.dat (.int k),[.setR dst (.conv k a.2)])
    |some .string,some .string,.str=>some (.dat .str,[.setR dst a.2])
    |_,_,_=>Option.none
def VA (C:Ctx)(S:St)(gs:List (Nat×Bool))(dst:Nat)(T:TypeId)(x:Operand):jI:=
 (view C S gs x).bind λa=>
    match a.1,C.P.underlying T with
    |.slice _,some (.slice _)=>some (.dat (.int .i64),[.setR dst (.llen a.2)])
    |.nils _,some (.slice _)=>some (.dat (.int .i64),[.setR dst (.llen a.2)])
    |.str,some .string=>some (.dat (.int .i64),[.setR dst (.slen a.2)])
    |.map ..,some (.map ..)=>some (.dat (.int .i64),[.setR dst (.mlen a.2)])
    |_,_=>Option.none
def Nl (C:Ctx)(S:St)(gs:List (Nat×Bool))(dst:Nat)(mx:Bool)(x y:Operand):jI:=
 (use C S gs x).bind λa=>(use C S gs y).bind λb=>
    match a.1,b.1 with
    |.int k,.int k'=>bif k==k' then some (.dat (.int k),[.setR dst (bif mx then .mx a.2 b.2 else .mn a.2 b.2)]) else Option.none
    |_,_=>Option.none
def wZ (ag:Bool)(n:Nat)(ts:List Ty)(off:Nat):Option Ty:=
 bif Nat.ble (off+n) ts.length then
    bif ag then some (.agg ((ts.drop off).take n))
    else bif Nat.beq n 1 then ts[off]? else Option.none
 else Option.none
def Dn (ag:Bool)(n:Nat)(e:PE)(off:Nat):PE:=bif ag then .sub e off n else .cell e off
def acC:List Sh->Option (List Ty)
 |[]=>some []
 |.dat t::r=>(acC r).map (t::·)
 |_=>Option.none
def agB (C:Ctx)(j:Nat):Bool:=C.fr.any (Nat.beq (1000000+j))
def Jx (S:St):List Sh->Option (List AgC)
 |[]=>some []
 |s::r=>
  (Jx S r).bind λx=>
   match s with
   |.dat t=>bif t.one then some (.dat t::x) else Option.none
   |.obj j ver=>bif Nat.beq ver (S.ver j) then some (.obj j ver::x) else Option.none
   |_=>Option.none
def G5 (C:Ctx)(S:St)(gs:List (Nat×Bool))(dst:Nat)(T:TypeId)(x:Operand):jI:=
 match C.P.info? T,ry C.P T with
 |some inf,some ag=>
  match gN S gs x with
  |.ptr j ver off=>
   bif Nat.beq ver (S.ver j) then
    match S.o j with
    |.box _ shs=>
     bif ag then
          bif Nat.ble (off+inf.size) shs.length then
           (yo S (.o j) ((shs.drop off).take inf.size) off).map λx=>(.dat (.agg x.1),[.setR dst (.mk x.2)])
          else Option.none
     else
          match shs[off]? with
          |some (.dat ty)=>bif ty.one then some (.dat ty,[.setR dst (.cell (.o j) off)]) else Option.none
          |some (.obj j' ud)=>some (.obj j' ud,[.setR dst (.con .none)])
          |_=>Option.none
    |.fbox (.agg ts)=>(wZ ag inf.size ts off).map λty=>(.dat ty,[.setR dst (Dn ag inf.size (.o j) off)])
    |.fbox ty=>bif !ag&&ty.one&&Nat.beq off 0 then some (.dat ty,[.setR dst (.o j)]) else Option.none
    |_=>Option.none
   else Option.none
  |.eptr j ver size off=>
   bif Nat.beq ver (S.ver j) then
    match S.o j with
    |.row _ (.agg ts)=>
     bif Nat.beq size ts.length then(wZ ag inf.size ts off).map λty=>(.dat ty,[.setR dst (Dn ag inf.size (.nth (.o j) (tX x)) off)])
     else Option.none
    |.row _ e=>bif !ag&&e.one&&Nat.beq off 0&&Nat.beq size 1 then some (.dat e,[.setR dst (.nth (.o j) (tX x))]) else Option.none
    |_=>Option.none
   else Option.none
  |_=>
   (use C S gs x).bind λa=>
    match a.1 with
    |.ref ty=>bif Nat.beq inf.size ty.size&&(ag==ty.rowT) then some (.dat ty,[.setR dst (.deref a.2)]) else Option.none
    |_=>Option.none
 |_,_=>Option.none
def Fu (P:Program)(T:TypeId)(i:Nat):Option Field:=
 match P.underlying T with
 |some (.struct fs)=>fs[i]?
 |_=>Option.none
def Vw (C:Ctx)(S:St)(gs:List (Nat×Bool))(dst:Nat)(T:TypeId)(x:Operand)(i:Nat):jI:=
 (Fu C.P T i).bind λf=>
    match C.P.info? f.type,ry C.P f.type with
    |some inf,some ag=>
     bif Nat.beq inf.size 0 then Option.none else
     match gN S gs x with
     |.eptr j ver size off=>bif Nat.beq ver (S.ver j) then some (.eptr j ver size (off+f.offset),[.setR dst (tX x)]) else Option.none
     |s=>
      match use C S gs x with
      |some (.ref (.agg ts),e)=>(wZ ag inf.size ts f.offset).map λty=>(.dat (.ref ty),[.setR dst (.ref (Dn ag inf.size (.deref e) f.offset))])
      |_=>
       match s with
       |.ptr j ver off=>bif Nat.beq ver (S.ver j) then some (.ptr j ver (off+f.offset),[.setR dst (.con .none)]) else Option.none
       |_=>Option.none
    |_,_=>Option.none
def Vv (C:Ctx)(S:St)(gs:List (Nat×Bool))(dst:Nat)(T:TypeId)(x:Operand)(i:Nat):jI:=
 (Fu C.P T i).bind λf=>
    match C.P.info? f.type,ry C.P f.type with
    |some inf,some ag=>
     match use C S gs x with
     |some (.agg ts,e)=>(wZ ag inf.size ts f.offset).map λty=>(.dat ty,[.setR dst (Dn ag inf.size e f.offset)])
     |_=>Option.none
    |_,_=>Option.none
def Vz (C:Ctx)(S:St)(gs:List (Nat×Bool))(dst:Nat)(T:TypeId)(x i:Operand):jI:=
 match C.P.underlying T with
 |some (.slice e)=>
  (use C S gs i).bind λn=>
    match n.1 with
    |.int _=>
     match use C S gs x with
     |some (.slice t,pe)=>bif ub C.P e t then some (.dat (.ref t.unf),[sI gs (.idx pe n.2),.setR dst (.ref (.nth pe n.2))]) else Option.none
     |some _=>Option.none
     |Option.none=>
      match gN S gs x with
      |.obj j ver=>
       bif Nat.beq ver (S.ver j) then
        match S.o j with
        |.row _ t=>bif ub C.P e t then some (.eptr j ver t.size 0,[sI gs (.idx (.o j) n.2),.setR dst n.2]) else Option.none
        |_=>Option.none
       else Option.none
      |_=>Option.none
    |_=>Option.none
 |_=>Option.none
def Vy (C:Ctx)(S:St)(gs:List (Nat×Bool))(dst:Nat)(T:TypeId)(x i:Operand):jI:=
 match C.P.underlying T with
 |some .string=>
  (use C S gs i).bind λn=>(use C S gs x).bind λa=>
    match n.1,a.1 with
    |.int _,.str=>some (.dat (.int .u8),[sI gs (.sok a.2 n.2),.setR dst (.sidx a.2 n.2)])
    |_,_=>Option.none
 |_=>Option.none
def Vu (C:Ctx)(S:St)(gs:List (Nat×Bool))(dst:Nat)(x:Operand)(i:Nat):jI:=
 (use C S gs x).bind λa=>
    match a.1 with
    |.tup ts=>(ts[i]?).map λt=>(.dat t,[.setR dst (.tget a.2 i)])
    |_=>Option.none
def VB (C:Ctx)(S:St)(gs:List (Nat×Bool))(dst:Nat)(T:TypeId)(m k:Operand)(ok:Bool):jI:=
 match C.P.underlying T with
 |some (.map K E)=>
  (view C S gs m).bind λa=>(use C S gs k).bind λb=>
    match a.1 with
    |.map kt et=>
     match qv et,C.P.info? E with
     |some z,some inf=>
      bif Ty.beq b.1 kt&&wO C.P K kt&&Ty.sub z.1 et&&vA inf et then
          bif ok then some (.dat (.tup [et,.bool]),[.setR dst (.tup [.look a.2 b.2 (.con z.2),.has a.2 b.2])])
          else some (.dat et,[.setR dst (.look a.2 b.2 (.con z.2))])
      else Option.none
     |_,_=>Option.none
    |_=>Option.none
 |_=>Option.none
def afp:Operand->Bool|.global _=>true|_=>false
def VE (C:Ctx)(S:St)(gs:List (Nat×Bool))(dst:Nat)(T:TypeId)(x:Operand)(lo hi mx:Option Operand):jI:=
 match C.P.underlying T,mx with
 |some (.slice e),Option.none=>
  (use C S gs x).bind λa=>
    match a.1 with
    |.slice t=>
     (aaI C S gs lo).bind λl=>
     (aaH C S gs a.2 hi).bind λh=>
        match l.1,h.1 with
        |.int _,.int _=>bif ub C.P e t then some (.dat (.slice t),[sI gs (.slok a.2 l.2 h.2),.setR dst (.slc a.2 l.2 h.2)]) else Option.none
        |_,_=>Option.none
    |_=>Option.none
 |some (.array n e),Option.none=>
  match lo,hi with
  |Option.none,Option.none=>
   (use C S gs x).bind λa=>
     match a.1 with
     |.ref (.agg (t::ts))=>bif Nat.beq n (ts.length+1)&&ts.all (Ty.beq t)&&t.one&&ub C.P e t&&Nat.ble n maxLen&&(afp x|| !Ty.beq t (.int .i64)) then some (.dat (.slice t),[.setR dst (.lst ((List.range n).map λi=>.cell (.deref a.2) i))]) else Option.none
     |_=>Option.none
  |_,_=>Option.none
 |_,_=>Option.none
def sl (C:Ctx)(S:St)(gs:List (Nat×Bool)):List Operand->Option (List Ty×List PE)
 |[]=>some ([],[])
 |x::xs=>(use C S gs x).bind λa=>(sl C S gs xs).map λr=>(a.1::r.1,a.2::r.2)
def Vx (C:Ctx)(S:St)(gs:List (Nat×Bool))(dst:Nat)(fn:Fn)(first caps:Array Operand):jI:=
 match fn,first.toList with
 |.func f,[]=>
  (C.cap f).bind λcs=>(sl C S gs caps.toList).bind λa=>bif Ty.subs a.1 cs.caps then some (.dat (.fn cs.args cs.res),[.setR dst (.clo f a.2)]) else Option.none
 |_,_=>Option.none
def rowOf (ag:Bool)(cs:List Value):Value:=if ag then .agg cs.toArray else cs.getD 0 undef
def TI:Ob->Bool
 |.row ..=>true
 |_=>false
def Dm (C:Ctx)(S:St)(gs:List (Nat×Bool))(ft:Ty)(x:Operand):Option (List AgC×PE):=
 match use C S gs x with
 |some a=>bif Ty.sub a.1 ft&&(a.1.rowT||a.1.one) then some (a.1.flat.map .dat,a.2) else Option.none
 |Option.none=>
  match gN S gs x with
  |.obj j ver=>bif Nat.beq ver (S.ver j)&&TI (S.o j)&&Nat.beq ft.size 1 then some ([.obj j ver],.con (.bool false)) else Option.none
  |_=>Option.none
def afo:AgC->Bool
 |.dat _=>true
 |_=>false
def AgC.ty:AgC->Ty
 |.dat t=>t
 |_=>.bool
def nN (C:Ctx)(S:St)(gs:List (Nat×Bool))(zs:List Value)(parts:List (Nat×Operand)):List Field->Nat->Nat->Option (List AgC×List PE)
 |[],_,off=>bif Nat.beq off zs.length then some ([],[]) else Option.none
 |f::fs,i,off=>
  match C.P.info? f.type,qu C.P f.type with
  |some inf,some ft=>
   bif Nat.beq f.offset off&&Nat.beq inf.size ft.size then
    (nN C S gs zs parts fs (i+1) (off+inf.size)).bind λr=>
       match parts.find? λp=>Nat.beq p.1 i with
       |some p=>(Dm C S gs ft p.2).map λa=>(a.1++r.1,a.2::r.2)
       |Option.none=>bif j4 ft (rowOf ft.rowT ((zs.drop off).take inf.size)) then(qv ft).map λz=>(z.1.flat.map .dat++r.1,.con z.2::r.2) else Option.none
   else Option.none
  |_,_=>Option.none
def kA:List Nat->Bool
 |[]=>true
 |a::r=> !(r.any (Nat.beq a))&&kA r
def Vs (C:Ctx)(S:St)(gs:List (Nat×Bool))(dst:Nat)(T:TypeId)(parts:List (Nat×Operand)):jI:=
 match C.P.underlying T,C.P.info? T with
 |some (.struct fs),some inf=>
  match inf.zero with
  |some (.agg zs)=>
   bif kA (parts.map (·.1))&&parts.all (λp=>Nat.blt p.1 fs.size) then
    (nN C S gs zs.toList parts fs.toList 0 0).map λr=>(bif r.1.all afo then .dat (.agg (r.1.map AgC.ty)) else .agg r.1,[.setR dst (.mk r.2)])
   else Option.none
  |_=>Option.none
 |_,_=>Option.none
def VC (C:Ctx)(S:St)(gs:List (Nat×Bool))(dst:Nat)(x:Operand):jI:=
 match use C S gs x with
 |some (.ref t,e)=>some (.dat (.ref t),[.setR dst e])
 |_=>
  match x with
  |.tmp t=>
   match sc S gs t with
   |.ptr j ver off=>bif Nat.beq ver (S.ver j) then some (.ptr j ver off,[.setR dst (.con .none)]) else Option.none
   |.eptr j ver sz off=>bif Nat.beq ver (S.ver j) then some (.eptr j ver sz off,[.setR dst (.r t)]) else Option.none
   |_=>Option.none
  |_=>Option.none
def Nn (C:Ctx)(S:St)(gs:List (Nat×Bool))(dst:Nat):Op->jI
 |.move x=>z7 C S gs dst x
 |.pick c x y=>VD C S gs dst c x y
 |.binOp op T x y _=>Vr C S gs dst op T x y
 |.unOp op _ x=>VF C S gs dst op x
 |.convert s d x=>Vt C S gs dst s d x
 |.load T x=>G5 C S gs dst T x
 |.fieldAddr T x i=>Vw C S gs dst T x i
 |.field T x i=>Vv C S gs dst T x i
 |.indexAddr T x i=>Vz C S gs dst T x i
 |.index T x i=>Vy C S gs dst T x i
 |.extract x i=>Vu C S gs dst x i
 |.lookup T m k ok=>VB C S gs dst T m k ok
 |.slice T x lo hi mx=>VE C S gs dst T x lo hi mx
 |.makeFunc f a b=>Vx C S gs dst f a b
 |.build T ps=>Vs C S gs dst T ps.toList
 |.nilCheck x=>VC C S gs dst x
 |.makeInterface _ _=>some (.dat .bool,[sI gs (.nt (.con (.bool true))),.setR dst (.con .none)])
 |.call c=>
  match c.callee,c.args.toList,c.argTypes.toList with
  |.builtin .len,[x],[T]=>VA C S gs dst T x
  |.builtin .min,[x,y],_=>Nl C S gs dst false x y
  |.builtin .max,[x,y],_=>Nl C S gs dst true x y
  |_,_,_=>Option.none
 |_=>Option.none
def yn:List (Nat×Nat)->List (Nat×Nat)->Bool
 |[],[]=>true
 |x::a,y::b=>Nat.beq x.1 y.1&&Nat.beq x.2 y.2&&yn a b
 |_,_=>false
def QS:∀a b,yn a b=true->a=b
 |[],[],_=>rfl
 |[],_::_,h=>by simp[yn] at h
 |_::_,[],h=>by simp[yn] at h
 |(x,u)::a,(y,v)::b,h=>by
  simp only[yn,au] at h;rw[aD h.1.1,aD h.1.2,QS a b h.2]
def qI:List AgC->List AgC->Bool
 |[],[]=>true
 |.dat t::a,.dat u::b=>Ty.beq t u&&qI a b
 |.obj j v::a,.obj k u::b=>Nat.beq j k&&Nat.beq v u&&qI a b
 |_,_=>false
def PZ:∀a b,qI a b=true->a=b
 |[],[],_=>rfl
 |.dat t::a,.dat u::b,h=>by
  simp only[qI,au] at h;rw[Ty.beq_eq _ _ h.1,PZ a b h.2]
 |.obj j v::a,.obj k u::b,h=>by
  simp only[qI,au] at h;rw[aD h.1.1,aD h.1.2,PZ a b h.2]
 |[],_::_,h=>by simp[qI] at h
 |.dat _::_,[],h=>by simp[qI] at h
 |.obj ..::_,[],h=>by simp[qI] at h
 |.dat _::_,.obj ..::_,h=>by simp[qI] at h
 |.obj ..::_,.dat _::_,h=>by simp[qI] at h
def uH:List (Nat×Bool)->List (Nat×Bool)->Bool
 |[],[]=>true
 |(a,x)::aa,(b,y)::bs=>Nat.beq a b&&(x==y)&&uH aa bs
 |_,_=>false
def Sh.beq:Sh->Sh->Bool
 |.none,.none=>true
 |.dat a,.dat b=>Ty.beq a b
 |.obj j v,.obj k u=>Nat.beq j k&&Nat.beq v u
 |.ptr j v o,.ptr k u p=>Nat.beq j k&&Nat.beq v u&&Nat.beq o p
 |.eptr j v s o,.eptr k u t p=>Nat.beq j k&&Nat.beq v u&&Nat.beq s t&&Nat.beq o p
 |.opt gs s,.opt hs t=>uH gs hs&&Sh.beq s t
 |.yv,.yv=>true
 |.fclo f a,.fclo g b=>Nat.beq f g&&yn a b
 |.agg a,.agg b=>qI a b
 |_,_=>false
def AF:List Sh->List Sh->Bool
 |[],[]=>true
 |a::aa,b::bs=>Sh.beq a b&&AF aa bs
 |_,_=>false
def Ob.beq:Ob->Ob->Bool
 |.dead,.dead=>true
 |.fz a,.fz b=>Ty.beq a b
 |.fbox a,.fbox b=>Ty.beq a b
 |.box x a,.box y b=>(x==y)&&AF a b
 |.row T a,.row U b=>Nat.beq T U&&Ty.beq a b
 |.mp a b,.mp c d=>Ty.beq a c&&Ty.beq b d
 |.it a b,.it c d=>Ty.beq a c&&Ty.beq b d
 |.tr,.tr=>true
 |_,_=>false
def Dh:List Ob->List Ob->Bool
 |[],[]=>true
 |a::aa,b::bs=>Ob.beq a b&&Dh aa bs
 |_,_=>false
def FE:∀a b,uH a b=true->a=b
 |[],[],_=>rfl
 |(a,x)::aa,(b,y)::bs,h=>by
  simp only[uH,au,beq_iff_eq] at h;rw[aD h.1.1,h.1.2,FE aa bs h.2]
 |[],_::_,h=>by simp[uH] at h
 |(_,_)::_,[],h=>by simp[uH] at h
def Sh.beq_eq:∀a b:Sh,Sh.beq a b=true->a=b:=by
 intro a
 induction a with
 |opt gs s ih=>
  intro b h;cases b<;>simp only[Sh.beq,au] at h<;>try (cases h;done)
  rw[FE _ _ h.1,ih _ h.2]
 |none=>intro b h;cases b<;>simp[Sh.beq] at h;rfl
 |yv=>intro b h;cases b<;>simp[Sh.beq] at h;rfl
 |fclo f a=>
  intro b h;cases b<;>simp only[Sh.beq,au] at h<;>try (cases h;done)
  rw[aD h.1,QS _ _ h.2]
 |dat t=>intro b h;cases b<;>simp only[Sh.beq] at h<;>try (cases h;done)
         rw[Ty.beq_eq _ _ h]
 |agg l=>intro b h;cases b<;>simp only[Sh.beq] at h<;>try (cases h;done)
         rw[PZ _ _ h]
 |obj j v=>
  intro b h;cases b<;>simp only[Sh.beq,au] at h<;>try (cases h;done)
  rw[aD h.1,aD h.2]
 |ptr j v o=>
  intro b h;cases b<;>simp only[Sh.beq,au] at h<;>try (cases h;done)
  rw[aD h.1.1,aD h.1.2,aD h.2]
 |eptr j v o=>
  intro b h;cases b<;>simp only[Sh.beq,au] at h<;>try (cases h;done)
  rw[aD h.1.1.1,aD h.1.1.2,aD h.1.2,aD h.2]
def XI:∀a b:List Sh,AF a b=true->a=b
 |[],[],_=>rfl
 |a::aa,b::bs,h=>by
  simp only[AF,au] at h;rw[Sh.beq_eq _ _ h.1,XI aa bs h.2]
 |[],_::_,h=>by simp[AF] at h
 |_::_,[],h=>by simp[AF] at h
def Ob.beq_eq:∀a b:Ob,Ob.beq a b=true->a=b:=by
 intro a b h;cases a<;>cases b<;>simp only[Ob.beq,au,beq_iff_eq] at h<;>try (cases h;done)
 .rfl
 .rw[Ty.beq_eq _ _ h]
 .rw[Ty.beq_eq _ _ h]
 .rw[h.1,XI _ _ h.2]
 .rw[aD h.1,Ty.beq_eq _ _ h.2]
 .rw[Ty.beq_eq _ _ h.1,Ty.beq_eq _ _ h.2]
 .rw[Ty.beq_eq _ _ h.1,Ty.beq_eq _ _ h.2]
 .rfl
def agL:∀a b:List Ob,Dh a b=true->a=b
 |[],[],_=>rfl
 |a::aa,b::bs,h=>by
  simp only[Dh,au] at h;rw[Ob.beq_eq _ _ h.1,agL aa bs h.2]
 |[],_::_,h=>by simp[Dh] at h
 |_::_,[],h=>by simp[Dh] at h
def isNone:Sh->Bool
 |.none=>true
 |_=>false
def pZ:Ob->Bool
 |.dead=>true
 |_=>false
end Cx
namespace Cx
open Go Go.RowKit
section
variable (C:Ctx) (S:St) (O:Env) (V:Im) (own:Nat->Option Nat) (hv:Nat->Value)
def sq:AgC->Value->D->Prop
 |.dat t,v,d=>t.one=true/\Rep C.cap V t v d
 |.obj j ver,v,_=>ver<=S.ver j/\(ver=S.ver j->v=hv j)
def aG:Sh->Value->D->Prop
 |.none,_,_=>True
 |.dat t,v,d=>Rep C.cap V t v d
 |.obj j ver,v,_=>ver<=S.ver j/\(ver=S.ver j->v=hv j)
 |.ptr j ver off,v,_=>ver<=S.ver j/\(ver=S.ver j->∃k,hv j=.pointer (some ⟨k,0,none⟩)/\v=.pointer (some ⟨k,off,none⟩))
 |.eptr j ver size off,v,d=>ver<=S.ver j/\(ver=S.ver j->∃(k n c:Nat) (ik:IntKind) (i:Nat),hv j=.slice (some ⟨k,0,none⟩) n c/\d=.v (.int ik i)/\i<n/\v=.pointer (some ⟨k,i*size+off,none⟩))
 |.yv,v,_=>v=C.yv
 |.fclo f caps,v,_=>∃vs:List Value,v=.func (.func f) #[] vs.toArray/\vs.length=caps.length/\∀(i j ver:Nat),caps[i]?=some (j,ver)->ver<=S.ver j/\(ver=S.ver j->vs.getD i undef=hv j)
 |.agg l,v,d=>∃(vs:List Value) (ds:List D),v=.agg vs.toArray/\d=.agg ds/\vs.length=l.length/\ds.length=l.length/\∀(i:Nat) (c:AgC),l[i]?=some c->sq C S V hv c (vs.getD i undef) (ds.getD i .none)
 |.opt gs s,v,d=>(holds gs O=true->aG s v d)/\(holds gs O=false->v=undef)
def du (cap:Nat->Option CSig)(V:Im)(e:Ty)(cells:List Value)(xs:List D):Prop:=
 ∃vs:Nat->Value,(∀i x,xs[i]?=some x->Rep cap V e (vs i) x)/\∀i j u,i<xs.length->(vs i).cells[j]?=some u->cells[i*e.size+j]?=some u
def nG (arr:Array MapEntry)(clock:Nat):Prop:=(∀(i:Nat) (e:MapEntry),arr[i]?=some e->e.born<clock)/\∀(i j:Nat) (e f:MapEntry),arr[i]?=some e->arr[j]?=some f->e.born=f.born->i=j
def iv (es:List (D×D))(idx:List Nat):List D:=idx.map λi=>match es[i]? with|some p=>.tup [p.1,p.2]|none=>.none
def gL (arr:Array MapEntry)(idx:List Nat):Array Nat:=(idx.map λi=>match arr[i]? with|some e=>e.born|none=>0).toArray
def cf (w:World)(B j:Nat):Ob->Prop
 |.dead=>True
 |.tr=>True
 |.fz t=>t.one=true/\Rep C.cap V t (hv j) (O.o j)
 |.fbox t=>∃k v,hv j=.pointer (some ⟨k,0,none⟩)/\Rep C.cap V t v (O.o j)/\∀i u,v.cells[i]?=some u->V.c k i=some u
 |.box _ shs=>∃k cs T ds,hv j=.pointer (some ⟨k,0,none⟩)/\own k=some j/\w.heap[k]?=some (.cells cs T (0,0))/\cs.size=shs.length/\O.o j=.agg ds/\ds.length=shs.length/\
   ∀i s,shs[i]?=some s->(∀gs s',s≠.opt gs s')/\aG C S O V hv s (cs.getD i undef) (ds.getD i .none)
 |.row T e=>∃cells xs,O.o j=.list xs/\w.ownsRow B T e.size (hv j) xs.length cells/\du C.cap V e cells xs/\∀k,(hv j).ownBlock=some k->own k=some j
 |.mp kt et=>∃k arr clock es,hv j=.map (some k)/\own k=some j/\w.heap[k]?=some (.map arr clock)/\O.o j=.map es/\es.length=arr.size/\(es.length<=maxLen/\nG arr clock)/\
   ∀(i:Nat) (e:MapEntry) (p:D×D),arr[i]?=some e->es[i]?=some p->Rep C.cap V kt e.key p.1/\Rep C.cap V et e.val p.2
 |.it kt et=>∃k m arr clock es idx,hv j=.pointer (some ⟨k,0,none⟩)/\own k=some j/\own m=some j/\k≠m/\w.heap[m]?=some (.map arr clock)/\w.heap[k]?=some (.mapIter (some m) clock (gL arr idx) clock)/\
   O.o j=.tup [.list (iv es idx),.map es]/\idx.Nodup/\(∀i,i∈idx->i<arr.size)/\es.length=arr.size/\nG arr clock/\
   ∀(i:Nat) (e:MapEntry) (p:D×D),arr[i]?=some e->es[i]?=some p->Rep C.cap V kt e.key p.1/\Rep C.cap V et e.val p.2
structure Base extends Im where
 B:Nat
 /--may qp function aIZ back its result here?-/
 fin:Prop
 F:D->(Nat->Prop)->(Nat->Prop)->World->Prop
 lt:∀t fx cx w,F t fx cx w->∀k,fx k->k<w.heap.size
 sub:∀t fx cx w,F t fx cx w->∀k,cx k->fx k
 keep:∀t fx cx w w',F t fx cx w->Below 0 w w'->(∀k,fx k->w'.heap[k]?=w.heap[k]?)->F t fx cx w'
instance:Coe Base Im:=⟨Base.toIm⟩
def Base.mk0 (V:Im)(B:Nat):Base:={V with B:=B,fin:=True,F:=λ_ fx cx _=>(∀k,¬fx k)/\∀k,¬cx k,lt:=λ_ _ _ _ h k hk=>absurd hk (h.1 k),sub:=λ_ _ _ _ h k hk=>absurd hk (h.2 k),keep:=λ_ _ _ _ _ h _ _=>h}
def lq (V:Im)(B:Nat):List Deferred->Prop
 |[]=>True
 |d::ds=>(∃D,d={target:=.collected D,args:=#[]}/\V.m D=some cw/\B<=D/\d∉ds)/\lq V B ds
def lq.mono {V τ:Im}(hle:V.le τ){B:Nat}:∀{ds:List Deferred},lq V B ds->lq τ B ds
 |[],_=>trivial
 |_::_,⟨⟨D,h1,h2,h3⟩,h⟩=>⟨⟨D,h1,hle.m _ _ h2,h3⟩,lq.mono hle h⟩
structure FrOK (B:Nat) (σ0:Base) (w:World) (t:D) (fx cx:Nat->Prop):Prop where
 F:σ0.F t fx cx w
 own:∀k j,own k=some j->¬fx k
 c:∀k o x,V.c k o=some x->¬cx k
 m:∀k x,V.m k=some x->¬cx k
 d:∀k,V.m k=some cw->B<=k->¬fx k
structure Inv (w0:World) (σ0:Base) (A:Nat->Prop) (a:Act) (w:World):Prop where
 defers:lq V w0.heap.size a.defers
 ok:V.ok w
 le:σ0.le V
 old:σ0.fin->∀k,σ0.m k=some cw->k<w0.heap.size
 newc:∀k o x,V.c k o=some x->σ0.c k o=some x\/w0.heap.size<=k
 newm:∀k es,V.m k=some es->σ0.m k=some es\/w0.heap.size<=k
 below:Below σ0.B w0 w
 bw:σ0.B<=w0.heap.size
 owns:∀k j,own k=some j->w0.heap.size<=k/\k<w.heap.size/\(∀o,V.c k o=none)/\V.m k=none
 regs:∀t,aG C S O V hv (S.r t) (a.tmps.getD t undef) (O.r t)
 objs:∀j,cf C S O V own hv w w0.heap.size j (S.o j)
 opts:∀t gs s,S.r t=.opt gs s->(∀g,g∈gs->A g.1)/\∀bN s',s≠.opt bN s'
 frame:∃t fx cx,FrOK V own w0.heap.size σ0 w t fx cx/\∀j,S.o j=.tr->(∃ys,C.yl=some (j,ys))/\O.o j=t
end
def Good (C:Ctx)(w0:World)(σ0:Base)(S:St)(O:Env)(A:Nat->Prop)(a:Act)(w:World):Prop:=
 ∃V own hv,Inv C S O V own hv w0 σ0 A a w
structure Compat (S:St) (hv:Nat->Value) (S':St) (hv':Nat->Value):Prop where
 ver:∀j,S.ver j<=S'.ver j
 hv:∀j,S'.ver j=S.ver j->hv' j=hv j
def Compat.refl (S:St)(hv:Nat->Value):Compat S hv S hv:=⟨λ_=>aZ _,λ_ _=>rfl⟩
def Compat.setO (S:St)(hv:Nat->Value)(j:Nat)(ob:Ob):Compat S hv (S.setO j ob) hv:=⟨λ_=>aZ _,λ_ _=>rfl⟩
def St.setO_o (S:St)(j:Nat)(ob:Ob):(S.setO j ob).o j=ob:=aS _ _ _
section
variable {C:Ctx} {S S':St} {O O':Env} {V V':Im} {own own':Nat->Option Nat} {hv hv':Nat->Value}
def sq.monoR (hσ:Im.leR C.cap V V')(hc:Compat S hv S' hv'):∀{c:AgC} {v:Value} {d:D},sq C S V hv c v d->sq C S' V' hv' c v d
 |.dat t,v,d,h=>⟨h.1,hσ.rep h.2⟩
 |.obj j ver,v,d,h=>by
  refine⟨fb h.1 (hc.ver j),λe=>?_⟩;have e1:S'.ver j=S.ver j:=by have:=hc.ver j;have:=h.1;omega
  rw[hc.hv j e1];exact h.2 (by omega)
def aG.monoR (hσ:Im.leR C.cap V V')(hc:Compat S hv S' hv'):∀{s:Sh} {v:Value} {d:D},(∀gs s',s=.opt gs s'->holds gs O'=holds gs O)->
 (∀gs s',s=.opt gs s'->∀bN IJ,s'≠.opt bN IJ)->aG C S O V hv s v d->aG C S' O' V' hv' s v d:=by
 intro s
 induction s with
 |none=>intros;trivial
 |yv=>intro v d _ _ h;exact h
 |fclo f caps=>
  intro v d _ _ h;obtain⟨vs,h1,h2,h3⟩:=h;refine⟨vs,h1,h2,λi j ver hi=>?_⟩;obtain⟨g1,g2⟩:=h3 i j ver hi;refine⟨fb g1 (hc.ver j),λe=>?_⟩;have e1:S'.ver j=S.ver j:=by have:=hc.ver j;omega
  rw[hc.hv j e1];exact g2 (by omega)
 |dat t=>intro v d _ _ h;exact hσ.rep h
 |agg l=>
  intro v d _ _ h;obtain⟨vs,ds,h1,h2,h3,h4,h5⟩:=h;exact⟨vs,ds,h1,h2,h3,h4,λi c hi=>(h5 i c hi).monoR hσ hc⟩
 |obj j ver=>
  intro v d _ _ h;refine⟨fb h.1 (hc.ver j),λe=>?_⟩;have e1:S'.ver j=S.ver j:=by have:=hc.ver j;have:=h.1;omega
  rw[hc.hv j e1];exact h.2 (by omega)
 |ptr j ver off=>
  intro v d _ _ h;refine⟨fb h.1 (hc.ver j),λe=>?_⟩;have e1:S'.ver j=S.ver j:=by have:=hc.ver j;have:=h.1;omega
  rw[hc.hv j e1];exact h.2 (by omega)
 |eptr j ver size off=>
  intro v d _ _ h;refine⟨fb h.1 (hc.ver j),λe=>?_⟩;have e1:S'.ver j=S.ver j:=by have:=hc.ver j;have:=h.1;omega
  rw[hc.hv j e1];exact h.2 (by omega)
 |opt gs s ih=>
  intro v d hg hn h;refine⟨λhh=>ih (λbN s' e=>absurd e (hn gs s rfl bN s')) (λbN s' e=>absurd e (hn gs s rfl bN s')) (h.1 (by rw[<-hg gs s rfl];exact hh)),λhh=>h.2 (by rw[<-hg gs s rfl];exact hh)⟩
def aG.mono (hσ:V.le V')(hc:Compat S hv S' hv'){s:Sh}{v:Value}{d:D}(h1:∀gs s',s=.opt gs s'->holds gs O'=holds gs O)
 (h2:∀gs s',s=.opt gs s'->∀bN IJ,s'≠.opt bN IJ) (h:aG C S O V hv s v d):aG C S' O' V' hv' s v d:=aG.monoR hσ.leR hc h1 h2 h
def aG.monoR' (hσ:Im.leR C.cap V V')(hc:Compat S hv S' hv'){s:Sh}{v:Value}{d:D}(hn:∀gs s',s≠.opt gs s')(h:aG C S O V hv s v d):aG C S' O' V' hv' s v d:=
 aG.monoR hσ hc (λgs s' e=>absurd e (hn gs s')) (λgs s' e=>absurd e (hn gs s')) h
def aG.mono' (hσ:V.le V')(hc:Compat S hv S' hv'){s:Sh}{v:Value}{d:D}(hn:∀gs s',s≠.opt gs s')(h:aG C S O V hv s v d):aG C S' O' V' hv' s v d:=
 aG.monoR' hσ.leR hc hn h
def du.monoR {cap:Nat->Option CSig}(hσ:Im.leR cap V V'){e:Ty}{cells:List Value}{xs:List D}(h:du cap V e cells xs):du cap V' e cells xs:=by
 obtain⟨vs,h1,h2⟩:=h;exact⟨vs,λi x hx=>hσ.rep (h1 i x hx),h2⟩
def du.mono {cap:Nat->Option CSig}(hσ:V.le V'){e:Ty}{cells:List Value}{xs:List D}(h:du cap V e cells xs):du cap V' e cells xs:=h.monoR hσ.leR
def cf.monoR (hσ:Im.leR C.cap V V')(hc:Compat S hv S' hv'){w w':World}{B j:Nat}{ob:Ob}(hj:hv' j=hv j)(hr:O'.o j=O.o j)
 (hk:∀k,own k=some j->own' k=some j/\w'.heap[k]?=w.heap[k]?) (h:cf C S O V own hv w B j ob):cf C S' O' V' own' hv' w' B j ob:=by
 cases ob with
 |dead=>trivial
 |tr=>trivial
 |fz t=>exact⟨h.1,by rw[hj,hr];exact hσ.rep h.2⟩
 |fbox t=>
  obtain⟨k,v,h1,h2,h3⟩:=h;exact⟨k,v,by rw[hj];exact h1,by rw[hr];exact hσ.rep h2,λi u hu=>hσ.c _ _ _ (h3 i u hu)⟩
 |box ag shs=>
  obtain⟨k,cs,T,ds,h1,h2,h3,h4,h5,h6,h7⟩:=h;refine⟨k,cs,T,ds,by rw[hj];exact h1,(hk k h2).1,by rw[(hk k h2).2];exact h3,h4,by rw[hr];exact h5,h6,λi s hs=>?_⟩;obtain⟨g1,g3⟩:=h7 i s hs;exact⟨g1,g3.monoR' hσ hc g1⟩
 |row T e=>
  obtain⟨cells,xs,h1,h2,h3,h4⟩:=h;refine⟨cells,xs,by rw[hr];exact h1,?_,h3.monoR hσ,λk hb=>(hk k (h4 k (by rw[<-hj];exact hb))).1⟩;rw[hj];refine⟨h2.1,?_⟩;rcases h2.2 with h|⟨g,cap,cur,e1,e2,e3,e4⟩
  .exact .inl h
  .exact .inr ⟨g,cap,cur,e1,e2,by rw[(hk g (h4 g (by rw[e1];rfl))).2];exact e3,e4⟩
 |mp kt et=>
  obtain⟨k,arr,clock,es,h1,h2,h3,h4,h5,hx,h6⟩:=h;refine⟨k,arr,clock,es,by rw[hj];exact h1,(hk k h2).1,by rw[(hk k h2).2];exact h3,by rw[hr];exact h4,h5,hx,λi e p he hp=>?_⟩;exact⟨hσ.rep (h6 i e p he hp).1,hσ.rep (h6 i e p he hp).2⟩
 |it kt et=>
  obtain⟨k,m,arr,clock,es,idx,h1,h2,h3,ay,h4,h5,h6,h7,h8,h9,jt,uJ⟩:=h;refine⟨k,m,arr,clock,es,idx,by rw[hj];exact h1,(hk k h2).1,(hk m h3).1,ay,by rw[(hk m h3).2];exact h4,by rw[(hk k h2).2];exact h5,by rw[hr];exact h6,h7,h8,h9,jt,λi e p he hp=>?_⟩;exact⟨hσ.rep (uJ i e p he hp).1,hσ.rep (uJ i e p he hp).2⟩
def cf.mono (hσ:V.le V')(hc:Compat S hv S' hv'){w w':World}{B j:Nat}{ob:Ob}(hj:hv' j=hv j)(hr:O'.o j=O.o j)
 (hk:∀k,own k=some j->own' k=some j/\w'.heap[k]?=w.heap[k]?) (h:cf C S O V own hv w B j ob):cf C S' O' V' own' hv' w' B j ob:=h.monoR hσ.leR hc hj hr hk
end
section
variable {C:Ctx} {S:St} {O:Env} {V:Im} {own:Nat->Option Nat} {hv:Nat->Value} {w0:World} {σ0:Base} {A:Nat->Prop} {a:Act} {w:World}
def Gf {gs:List (Nat×Bool)}{O:Env}{t:Nat}{d:D}(h:∀g,g∈gs->g.1≠t):holds gs (O.setR t d)=holds gs O:=by
 unfold holds
 induction gs with
 |nil=>rfl
 |cons g gs ih=>
  simp only[sv];rw[ih λx hx=>h x (fy _ hx)];simp[Env.setR,bJ _ _ (h g (fQ ..))]
def IU (a:Act)(t u:Nat)(v:Value):(a.put (some t) v).tmps.getD u undef=if u=t/\t<a.tmps.size then v else a.tmps.getD u undef:=by
 simp only[Act.put,gp,Ej];by_cases h:t=u
 .subst h;by_cases h2:t<a.tmps.size
  .simp[h2]
  .simp[h2]
 .have h':¬u=t:=λe=>h e.symm;simp[h,h']
def Inv.step (h:Inv C S O V own hv w0 σ0 A a w){S':St}{O':Env}{V':Im}{own':Nat->Option Nat}{hv':Nat->Value}{A':Nat->Prop}{a':Act}{w':World}(W:Nat->Prop)
 (hd:a'.defers=a.defers) (hσ:V.le V') (ax:V'.ok w')
 (dD:∀k o x,V'.c k o=some x->V.c k o=some x\/(w0.heap.size<=k/\((∃j,own k=some j)\/w.heap.size<=k))) (cY:∀k es,V'.m k=some es->V.m k=some es\/(w0.heap.size<=k/\((∃j,own k=some j)\/w.heap.size<=k)))
 (hb:Below w0.heap.size w w') (hc:Compat S hv S' hv')
 (hW:∀j,¬W j->S'.o j=S.o j/\O'.o j=O.o j/\hv' j=hv j/\∀k,own k=some j->own' k=some j/\w'.heap[k]?=w.heap[k]?)
 (LJ:∀j,W j->cf C S' O' V' own' hv' w' w0.heap.size j (S'.o j))
 (bB:∀k j,own' k=some j->w0.heap.size<=k/\k<w'.heap.size/\(∀o,V'.c k o=none)/\V'.m k=none)
 (hA:∀t,A t->A' t)
 (hr:∀t,(S'.r t=S.r t/\a'.tmps.getD t undef=a.tmps.getD t undef/\O'.r t=O.r t)\/
   (aG C S' O' V' hv' (S'.r t) (a'.tmps.getD t undef) (O'.r t)/\∀gs s,S'.r t=.opt gs s->(∀g,g∈gs->A' g.1)/\∀bN s',s≠.opt bN s'))
 (hg:∀t,A t->O'.r t=O.r t) (mi:∀k,k<w.heap.size->own k=none->w'.heap[k]?=w.heap[k]?) (hof:∀k i,own' k=some i->(∃j,own k=some j)\/w.heap.size<=k) (uT:∀j,W j->S'.o j≠.tr):Inv C S' O' V' own' hv' w0 σ0 A' a' w' where
 defers:=by rw[hd];exact h.defers.mono hσ
 ok:=ax
 le:=h.le.trans hσ
 old:=h.old
 newc:=λk o x hx=>(dD k o x hx).elim (h.newc k o x) λe=>.inr e.1
 newm:=λk x hx=>(cY k x hx).elim (h.newm k x) λe=>.inr e.1
 below:=h.below.trans (hb.mono h.bw)
 bw:=h.bw
 owns:=bB
 regs:=λt=>by
  rcases hr t with⟨h1,h2,h3⟩|h4
  .rw[h1,h2,h3];refine aG.mono hσ hc (λgs s e=>?_) (λgs s e=>(h.opts t gs s e).2) (h.regs t);unfold holds;have aP:∀g,g∈gs->O'.r g.1=O.r g.1:=λg hm=>hg _ ((h.opts t gs s e).1 g hm);clear e
   induction gs with
   |nil=>rfl
   |cons g gs ih=>simp only[sv];rw[ih λx hx=>aP x (fy _ hx),aP g (fQ ..)]
  .exact h4.1
 objs:=λj=>by
  by_cases hj:W j
  .exact LJ j hj
  .obtain⟨h1,h2,h3,h4⟩:=hW j hj;rw[h1];exact(h.objs j).mono hσ hc h3 h2 h4
 opts:=λt gs s e=>by
  rcases hr t with⟨h1,h2,h3⟩|h4
  .obtain⟨g1,g2⟩:=h.opts t gs s (by rw[<-h1];exact e);exact⟨λg hm=>hA _ (g1 g hm),g2⟩
  .exact h4.2 gs s e
 frame:=by
  obtain⟨t,fx,cx,hf,h4⟩:=h.frame;have af:=σ0.lt _ _ _ _ hf.F;have oB:∀k,(∃j,own k=some j)\/w.heap.size<=k->¬fx k:=by
   rintro k (⟨j,hj⟩|hk) LY
   .exact hf.own k j hj LY
   .have:=af k LY;omega
  refine⟨t,fx,cx,⟨σ0.keep _ _ _ _ _ hf.F (hb.mono (kf _)) (λk hk=>mi k (af k hk) ?_),λk j hj=>oB k (hof k j hj),λk o x hx=>?_,λk x hx=>?_,λk hx hB=>?_⟩,λj hj=>?_⟩
  .cases e:own k with
   |none=>rfl
   |some j=>exact absurd hk (hf.own k j e)
  .rcases dD k o x hx with e|e
   .exact hf.c k o x e
   .exact λhc=>oB k e.2 (σ0.sub _ _ _ _ hf.F k hc)
  .rcases cY k x hx with e|e
   .exact hf.m k x e
   .exact λhc=>oB k e.2 (σ0.sub _ _ _ _ hf.F k hc)
  .rcases cY k _ hx with e|e
   .exact hf.d k e hB
   .exact oB k e.2
  .by_cases hw:W j
   .exact absurd hj (uT j hw)
   .obtain⟨e1,e2,_⟩:=hW j hw;rw[e2];exact h4 j (by rw[<-e1];exact hj)
def Inv.setReg (h:Inv C S O V own hv w0 σ0 A a w){t:Nat}(ht:¬A t){s:Sh}{v:Value}{d:D}(hs:aG C S (O.setR t d) V hv s v d)(af:t<a.tmps.size)
 (SQ:∀gs s',s=.opt gs s'->(∀g,g∈gs->A g.1)/\∀bN IJ,s'≠.opt bN IJ):
 Inv C (S.setR t s) (O.setR t d) V own hv w0 σ0 (λu=>A u\/u=t) (a.put (some t) v) w:=by
 refine h.step (λ_=>False) rfl (.refl V) h.ok (λ_ _ _ hx=>.inl hx) (λ_ _ hx=>.inl hx) (.refl _ _) ⟨λ_=>aZ _,λ_ _=>rfl⟩ (λj _=>⟨rfl,rfl,rfl,λk hk=>⟨hk,rfl⟩⟩) (λj hj=>hj.elim) h.owns (λ_=>.inl) (λu=>?_) (λu hu=>?_) (λk _ _=>?_) (λk i hk=>.inl ⟨i,hk⟩) (λ_ hf=>hf.elim)
 .by_cases hu:u=t
  .subst hu;refine .inr ⟨?_,?_⟩
   .rw[IU];simp only[St.setR,Env.setR,aS,af,and_self,if_true];refine aG.mono (S:=S) (S':=S.setR u s) (O:=O.setR u d) (O':=O.setR u d) (hv:=hv) (.refl V) ⟨λ_=>aZ _,λ_ _=>rfl⟩ (λgs s' e=>?_) (λgs s' e=>(SQ gs s' e).2) hs;rfl
   .intro gs s' e;simp only[St.setR,aS] at e;exact⟨λg hm=>.inl ((SQ gs s' e).1 g hm),(SQ gs s' e).2⟩
  .refine .inl ⟨by simp[St.setR,bJ _ _ hu],?_,by simp[Env.setR,bJ _ _ hu]⟩;rw[IU];simp[hu]
 .exact bJ _ _ (λe=>ht (e▸hu))
 .rfl
end
def anC {cap:Nat->Option CSig}{V:Im}{v:Value}{x:Ty×D}(h:Q7 v=some x):Rep cap V x.1 v x.2:=by
 unfold Q7 at h;split at h
 .split at h
  .rename_i hh;cases h;exact .int _ _ hh.1 hh.2
  .cases h
 .cases h;exact .bool _
 .split at h
  .rename_i hh;cases h;exact .str _ hh
  .cases h
 .cases h;exact .nils _
 .cases h
mutual
def Ty.sub_one:∀a b:Ty,Ty.sub a b=true->a.one=b.one/\a.size=b.size
 |.nils a,b,h=>by
  cases b<;>simp_all [Ty.sub,Ty.beq,Ty.one,Ty.size]
 |.nsl a,b,h=>by
  cases b<;>simp_all [Ty.sub,Ty.beq,Ty.one,Ty.size]
 |.agg a,b,h=>by
  cases b with
  |agg b=>simp only[Ty.sub] at h;exact⟨rfl,(Ty.subs_len a b h)⟩
  |_=>simp[Ty.sub,Ty.beq] at h
 |.tup a,b,h=>by
  cases b with
  |tup b=>exact⟨rfl,rfl⟩
  |_=>simp[Ty.sub,Ty.beq] at h
 |.int a,b,h=>by cases b<;>simp_all [Ty.sub,Ty.beq,Ty.one,Ty.size]
 |.bool,b,h=>by cases b<;>simp_all [Ty.sub,Ty.beq,Ty.one,Ty.size]
 |.str,b,h=>by cases b<;>simp_all [Ty.sub,Ty.beq,Ty.one,Ty.size]
 |.slice a,b,h=>by cases b<;>simp_all [Ty.sub,Ty.beq,Ty.one,Ty.size]
 |.map a c,b,h=>by cases b<;>simp_all [Ty.sub,Ty.beq,Ty.one,Ty.size]
 |.ref a,b,h=>by cases b<;>simp_all [Ty.sub,Ty.beq,Ty.one,Ty.size]
 |.fn a r,b,h=>by cases b<;>simp_all [Ty.sub,Ty.beq,Ty.one,Ty.size]
 |.trm,b,h=>by cases b<;>simp_all [Ty.sub,Ty.beq,Ty.one,Ty.size]
def Ty.subs_len:∀a b:List Ty,Ty.subs a b=true->a.length=b.length
 |[],b,h=>by cases b<;>simp_all [Ty.subs]
 |x::a,b,h=>by
  cases b with
  |nil=>simp[Ty.subs] at h
  |cons y b=>simp only[Ty.subs,au] at h;simp[Ty.subs_len a b h.2]
end
def Ty.subs_get:∀a b:List Ty,Ty.subs a b=true->∀(i:Nat) (t:Ty),b[i]?=some t->∃s,a[i]?=some s/\Ty.sub s t=true
 |[],b,h,i,t,hi=>by cases b<;>simp_all [Ty.subs]
 |x::a,b,h,i,t,hi=>by
  cases b with
  |nil=>simp[Ty.subs] at h
  |cons y b=>
   simp only[Ty.subs,au] at h;cases i with
   |zero=>simp only[PG,bj] at hi ⊢;subst hi;exact⟨x,rfl,h.1⟩
   |succ i=>simp only[abb] at hi ⊢;exact Ty.subs_get a b h.2 i t hi
def Rep.sub {cap:Nat->Option CSig}{V:Im}{s:Ty}{v:Value}{d:D}(h:Rep cap V s v d):∀{t:Ty},Ty.sub s t=true->Rep cap V t v d:=by
 induction h with
 |nils e=>
  intro t ht;cases t with
  |slice b=>exact .nil b
  |nils b=>exact .nils b
  |_=>simp[Ty.sub,Ty.beq] at ht
 |nsl0 e=>
  intro t ht;cases t with
  |slice b=>exact .nil b
  |nsl b=>exact .nsl0 b
  |_=>simp[Ty.sub,Ty.beq] at ht
 |nsl e k o n c xs h hx ih=>
  intro t ht;cases t with
  |slice b=>simp only[Ty.sub] at ht;rw[<-Ty.beq_eq _ _ ht];exact h
  |nsl b=>simp only[Ty.sub,Ty.beq] at ht;rw[<-Ty.beq_eq _ _ ht];exact .nsl e k o n c xs h hx
  |_=>simp[Ty.sub,Ty.beq] at ht
 |agg ts vs ds h1 h2 h ho ih=>
  intro t ht;cases t with
  |agg us=>
   simp only[Ty.sub] at ht;have hl:=Ty.subs_len ts us ht;refine .agg us vs ds (by omega) (by omega) (λi t hi=>?_) (λi t hi=>?_)
   .obtain⟨s,hs,cX⟩:=Ty.subs_get ts us ht i t hi;exact ih i s hs cX
   .obtain⟨s,hs,cX⟩:=Ty.subs_get ts us ht i t hi;rw[<-(Ty.sub_one s t cX).1];exact ho i s hs
  |_=>simp[Ty.sub,Ty.beq] at ht
 |tup ts vs ds h1 h2 h ih=>
  intro t ht;cases t with
  |tup us=>
   simp only[Ty.sub] at ht;have hl:=Ty.subs_len ts us ht;refine .tup us vs ds (by omega) (by omega) (λi t hi=>?_);obtain⟨s,hs,cX⟩:=Ty.subs_get ts us ht i t hi;exact ih i s hs cX
  |_=>simp[Ty.sub,Ty.beq] at ht
 |int k n h1 h2=>
  intro t ht;have:=Ty.beq_eq (.int k) t (by cases t<;>simp_all [Ty.sub]);subst this;exact .int k n h1 h2
 |bool b=>
  intro t ht;have:=Ty.beq_eq .bool t (by cases t<;>simp_all [Ty.sub]);subst this;exact .bool b
 |str s h=>
  intro t ht;have:=Ty.beq_eq .str t (by cases t<;>simp_all [Ty.sub]);subst this;exact .str s h
 |nil e=>
  intro t ht;have:=Ty.beq_eq (.slice e) t (by cases t<;>simp_all [Ty.sub]);subst this;exact .nil e
 |emp e a=>
  intro t ht;have:=Ty.beq_eq (.slice e) t (by cases t<;>simp_all [Ty.sub]);subst this;exact .emp e a
 |slice e k o n c xs vs hn hc hm h hv hz=>
  intro t ht;have:=Ty.beq_eq (.slice e) t (by cases t<;>simp_all [Ty.sub]);subst this;exact .slice e k o n c xs vs hn hc hm h hv hz
 |mapnil kt et=>
  intro t ht;have:=Ty.beq_eq (.map kt et) t (by cases t<;>simp_all [Ty.sub]);subst this;exact .mapnil kt et
 |map kt et r ix es hm hl hx hk he=>
  intro t ht;have:=Ty.beq_eq (.map kt et) t (by cases t<;>simp_all [Ty.sub]);subst this;exact .map kt et r ix es hm hl hx hk he
 |ref s k o v d h hv=>
  intro t ht;have:=Ty.beq_eq (.ref s) t (by cases t<;>simp_all [Ty.sub]);subst this;exact .ref s k o v d h hv
 |fn f cs vs ds hc h1 h2 h=>
  intro t ht;have:=Ty.beq_eq (.fn cs.args cs.res) t (by cases t<;>simp_all [Ty.sub]);subst this;exact .fn f cs vs ds hc h1 h2 h
 |fnnil aa r=>
  intro t ht;have:=Ty.beq_eq (.fn aa r) t (by cases t<;>simp_all [Ty.sub]);subst this;exact .fnnil aa r
structure CtxOK (C:Ctx) (σ0:Im):Prop where
 glob:∀g x,C.glob g=some x->Rep C.cap σ0 (.ref x.1) (.pointer (some ⟨g,0,none⟩)) (.ref x.2)
 mg:∀g x,C.glob g=some x->σ0.m g=some mB
def aAQ {bN gs:List (Nat×Bool)}{O:Env}(h:OX bN gs=true)(hg:holds gs O=true):holds bN O=true:=by
 unfold holds OX at*;rw[cM] at*;intro g hm;obtain⟨k,hk,wh⟩:=xR.1 (h g hm);simp only[au,beq_iff_eq] at wh;have h1:=aD wh.1;have e:g=k:=by cases g;cases k;simp_all
 rw[e];exact hg k hk
section
variable {C:Ctx} {S:St} {O:Env} {V:Im} {own:Nat->Option Nat} {hv:Nat->Value} {w0:World} {σ0:Base} {A:Nat->Prop} {a:Act} {w:World} {gs:List (Nat×Bool)}
def sd (h:Inv C S O V own hv w0 σ0 A a w)(hg:holds gs O=true)(t:Nat):aG C S O V hv (sc S gs t) (a.tmps.getD t undef) (O.r t)/\∀bN s',sc S gs t≠.opt bN s':=by
 have hr:=h.regs t;unfold sc;cases hs:S.r t with
 |opt bN s=>
  rw[hs] at hr;have ho:=(h.opts t bN s hs).2;simp only;cases hb:OX bN gs with
  |true=>exact⟨hr.1 (aAQ hb hg),ho⟩
  |false=>exact⟨trivial,λ_ _ e=>by cases e⟩
 |_=>rw[hs] at hr;exact⟨hr,λ_ _ e=>by cases e⟩
def Rep.dcells {cap:Nat->Option CSig}{t:Ty}{v:Value}{d:D}(h:Rep cap V t v d)(ht:t.one=true):d.cells=[d]:=by
 cases h<;>simp_all [Ty.one,D.cells]
def QW (h:Inv C S O V own hv w0 σ0 A a w){b:PE}{cs:List Value}{ds:List D}(hd:b.ev O=.agg ds):
 ∀(shs:List Sh) (i:Nat) (r:List Ty×List PE),(∀m s,shs[m]?=some s->aG C S O V hv s (cs.getD (i+m) undef) (ds.getD (i+m) .none))->yo S b shs i=some r->
  r.1.length=shs.length/\∃es,(PE.evc O r.2=es/\PE.evs O r.2=es)/\es.length=shs.length/\(∀m t,r.1[m]?=some t->t.one=true/\Rep C.cap V t (cs.getD (i+m) undef) (es.getD m .none)):=by
 intro shs
 induction shs with
 |nil=>intro i r aP hr;simp[yo] at hr;subst hr;exact⟨rfl,[],⟨rfl,rfl⟩,rfl,by simp⟩
 |cons s shs ih=>
  intro i r aP hr;simp only[yo,az] at hr;obtain⟨x,hx,hr⟩:=hr
  have uL:∀m s,shs[m]?=some s->aG C S O V hv s (cs.getD (i+1+m) undef) (ds.getD (i+1+m) .none):=λm s hm=>by
   have:=aP (m+1) s (by simpa using hm)
   rwa [show i+(m+1)=i+1+m by omega] at this
  obtain⟨l1,es,⟨he,oA⟩,l2,bK⟩:=ih (i+1) x uL hx;have h0:=aP 0 s rfl;simp only[l9] at h0;split at hr
  .rename_i t;cases eM:t.one<;>simp only[eM,zyy,zyx] at hr
   .cases hr
   .cases hr;have gw:Rep C.cap V t (cs.getD i undef) (ds.getD i .none):=h0;refine⟨by simp[l1],ds.getD i .none::es,⟨?_,by simp only[PE.evs,PE.ev,hd,D.c,D.cells,oA]⟩,by simp[l2],λm t' hm=>?_⟩
    .simp only[PE.evc,PE.ev,hd,D.c,D.cells,he];have:=gw.dcells eM;simp only[D.cells] at this;rw[this];rfl
    .cases m with
     |zero=>simp at hm;subst hm;exact⟨eM,gw⟩
     |succ m=>simp at hm;have:=bK m t' hm;rwa [show i+1+m=i+(m+1) by omega] at this
  .rename_i j' ver;cases hb:Nat.beq ver (S.ver j')<;>simp only[hb,zyy,zyx] at hr
   .cases hr
   .have dR:=aD hb;split at hr
    .rename_i t eo;cases hr;have ho:=h.objs j';rw[eo] at ho;have gw:cs.getD i undef=hv j':=h0.2 dR;refine⟨by simp[l1],O.o j'::es,⟨?_,by simp only[PE.evs,PE.ev,oA]⟩,by simp[l2],λm t' hm=>?_⟩
     .simp only[PE.evc,PE.ev,he];rw[ho.2.dcells ho.1];rfl
     .cases m with
      |zero=>simp at hm;subst hm;exact⟨ho.1,by rw[l9,gw];exact ho.2⟩
      |succ m=>simp at hm;have:=bK m t' hm;rwa [show i+1+m=i+(m+1) by omega] at this
    .cases hr
  .cases hr
def cu (h:Inv C S O V own hv w0 σ0 A a w)(hC:CtxOK C σ0)(hg:holds gs O=true){x:Operand}{r:Ty×PE}(hu:use C S gs x=some r):Rep C.cap V r.1 (a.eval x) (r.2.ev O):=by
 cases x with
 |const v=>
  simp only[use,aB] at hu;obtain⟨y,hy,rfl⟩:=hu;exact anC hy
 |func f=>
  simp only[use] at hu;split at hu
  .rename_i aa r hc;cases hu;exact .fn f ⟨[],aa,r⟩ [] [] hc rfl rfl (λi t hi=>by simp at hi)
  .cases hu
 |global g=>
  simp only[use,aB] at hu;obtain⟨y,hy,rfl⟩:=hu;exact(hC.glob g y hy).mono h.le
 |tmp t=>
  obtain⟨hs,_⟩:=sd h hg t;simp only[use] at hu;split at hu
  .rename_i ty e;rw[e] at hs;cases hu;exact hs
  .rename_i j ver e;rw[e] at hs;cases hb:Nat.beq ver (S.ver j)<;>simp only[hb,zyy,zyx] at hu
   .cases hu
   .have dR:=aD hb;have ho:=h.objs j;split at hu
    .rename_i ty eo;rw[eo] at ho;cases hu;show Rep C.cap V ty (a.tmps.getD t undef) (O.o j);rw[hs.2 dR];exact ho.2
    .cases hu
  .rename_i j ver off e;rw[e] at hs;cases hb:(Nat.beq ver (S.ver j)&&Nat.beq off 0)<;>simp only[hb,zyy,zyx] at hu
   .cases hu
   .simp only[au] at hb;have dR:=aD hb.1;have jd:=aD hb.2;have ho:=h.objs j;split at hu
    .rename_i ty eo;rw[eo] at ho;cases hu;obtain⟨k,v,h1,h2,h3⟩:=ho;obtain⟨k',e1,e2⟩:=hs.2 dR;rw[h1] at e1;cases e1;subst jd;show Rep C.cap V (.ref ty) (a.tmps.getD t undef) (.ref (O.o j));rw[e2];exact .ref ty k 0 v _ h2 (by simpa using h3)
    .cases hu
  .rename_i l e;rw[e] at hs;simp only[aB] at hu;obtain⟨p,hp,rfl⟩:=hu;obtain⟨vs,ds,e1,e2,e3,e4,e5⟩:=hs
   obtain⟨l1,es,⟨he,_⟩,l2,bK⟩:=QW (b:=.r t) h (cs:=vs) (ds:=ds) e2 _ 0 p (λm s hm=>by
      rw[cq,aB] at hm;obtain⟨c,hc,rfl⟩:=hm;rw[ke];have:=e5 m c hc;cases c with
      |dat t=>exact this.2
      |obj j ver=>exact this) hp
   rw[dX] at l1 l2;show Rep C.cap V (.agg p.1) (a.tmps.getD t undef) (.agg (PE.evc O p.2));rw[e1,he];refine .agg _ _ _ (by omega) (by omega) (λm t hm=>?_) (λm t hm=>(bK m t hm).1);have:=(bK m t hm).2
   rwa [ke] at this
  .cases hu
end
end Cx
