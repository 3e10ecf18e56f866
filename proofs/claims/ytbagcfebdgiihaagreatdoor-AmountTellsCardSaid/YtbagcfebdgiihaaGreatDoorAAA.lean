import Derived.Laws.AppendOwn
import Derived.Below
import Derived.Laws.StructEq
import Derived.ChangeKeysEq
import Derived.Calls
import Derived.Laws.Cells
import Derived.Laws.Entries
noncomputable section
set_option linter.all false
namespace Cx
open Go
def zyu{α:Type _}{a b:α}:cond false a b=b:=rfl
def zyv{α:Type _}{a b:α}:cond true a b=a:=rfl
def zyw{α:Sort _}{a:α}:a=a:=_root_.id rfl
def aA:type_of% @Bool.and_eq_true:=@Bool.and_eq_true
def aJ:type_of% @Option.bind_eq_some_iff:=@Option.bind_eq_some_iff
def aK:type_of% @Nat.eq_of_beq_eq_true:=@Nat.eq_of_beq_eq_true
def aT:type_of% @Option.map_eq_some_iff:=@Option.map_eq_some_iff
def bn:type_of% @List.getD_eq_getElem?_getD:=@List.getD_eq_getElem?_getD
def bx:type_of% @Option.some.injEq:=@Option.some.injEq
def bL:type_of% @Nat.le_refl:=@Nat.le_refl
def bR:type_of% @List.getElem_mem:=@List.getElem_mem
def cd:type_of% @List.getElem?_eq_getElem:=@List.getElem?_eq_getElem
def dF:type_of% @List.getElem?_map:=@List.getElem?_map
def dG:type_of% @List.mem_cons:=@List.mem_cons
def dT:type_of% @List.mem_append:=@List.mem_append
def eC:type_of% @Int.eq_ofNat_of_zero_le:=@Int.eq_ofNat_of_zero_le
def eQ:type_of% @List.length_take:=@List.length_take
def fe:type_of% @List.all_eq_true:=@List.all_eq_true
def fF:type_of% @List.mem_map:=@List.mem_map
def fY:type_of% @List.mem_cons_of_mem:=@List.mem_cons_of_mem
def gy:type_of% @List.mem_cons_self:=@List.mem_cons_self
def gz:type_of% @List.mem_filter:=@List.mem_filter
def gA:type_of% @List.take_succ_eq_append_getElem:=@List.take_succ_eq_append_getElem
def gQ:type_of% @List.getElem_of_mem:=@List.getElem_of_mem
def gR:type_of% @List.mem_range:=@List.mem_range
def ij:type_of% @Array.getElem?_eq_some_iff:=@Array.getElem?_eq_some_iff
def iK:type_of% @Array.getD_eq_getD_getElem?:=@Array.getD_eq_getD_getElem?
def iL:type_of% @List.getElem?_take:=@List.getElem?_take
def je:type_of% @List.getElem?_drop:=@List.getElem?_drop
def jf:type_of% @Nat.le_trans:=@Nat.le_trans
def jh:type_of% @Nat.zero_add:=@Nat.zero_add
def jF:type_of% @List.getElem?_eq_some_iff:=@List.getElem?_eq_some_iff
def j6:type_of% @List.map_cons:=@List.map_cons
def j7:type_of% @Nat.mod_lt:=@Nat.mod_lt
def j9:type_of% @Nat.mul_le_mul_right:=@Nat.mul_le_mul_right
def kB:type_of% @Array.getElem?_eq_getElem:=@Array.getElem?_eq_getElem
def kC:type_of% @List.mem_append_left:=@List.mem_append_left
def lg:type_of% @List.mem_append_right:=@List.mem_append_right
def lh:type_of% @Nat.add_mul:=@Nat.add_mul
def lj:type_of% @Option.getD_some:=@Option.getD_some
def ll:type_of% @Option.map_some:=@Option.map_some
def lY:type_of% @Bool.not_eq_true':=@Bool.not_eq_true'
def lZ:type_of% @Bool.or_eq_true:=@Bool.or_eq_true
def l6:type_of% @Int.tdiv_eq_ediv_of_nonneg:=@Int.tdiv_eq_ediv_of_nonneg
def l7:type_of% @Nat.mul_le_mul:=@Nat.mul_le_mul
def mO:type_of% @Nat.le_of_ble_eq_true:=@Nat.le_of_ble_eq_true
def nJ:type_of% @Int.tmod_eq_emod_of_nonneg:=@Int.tmod_eq_emod_of_nonneg
def nK:type_of% @List.getElem?_append:=@List.getElem?_append
def nL:type_of% @List.length_append:=@List.length_append
def nM:type_of% @List.length_cons:=@List.length_cons
def nN:type_of% @List.length_map:=@List.length_map
def nO:type_of% @Nat.beq_refl:=@Nat.beq_refl
def nP:type_of% @Nat.mul_comm:=@Nat.mul_comm
def pJ:type_of% @Prod.mk.injEq:=@Prod.mk.injEq
def qA:type_of% @Array.mem_of_getElem?:=@Array.mem_of_getElem?
def qB:type_of% @Bool.cond_eq_ite:=@Bool.cond_eq_ite
def qD:type_of% @List.append_assoc:=@List.append_assoc
def qE:type_of% @Nat.add_zero:=@Nat.add_zero
def qF:type_of% @Nat.blt_eq:=@Nat.blt_eq
def qG:type_of% @Nat.min_eq_left:=@Nat.min_eq_left
def rW:type_of% @Int.toNat_natCast:=@Int.toNat_natCast
def rX:type_of% @List.foldl_append:=@List.foldl_append
def rY:type_of% @List.getElem?_append_right:=@List.getElem?_append_right
def rZ:type_of% @List.getElem?_range:=@List.getElem?_range
def sc:type_of% @List.length_nil:=@List.length_nil
def sd:type_of% @Nat.div_add_mod:=@Nat.div_add_mod
def tP:type_of% @Bool.eq_iff_iff:=@Bool.eq_iff_iff
def tQ:type_of% @Bool.false_and:=@Bool.false_and
def tR:type_of% @Bool.or_true:=@Bool.or_true
def tS:type_of% @Int.le_of_lt:=@Int.le_of_lt
def tT:type_of% @Int.le_refl:=@Int.le_refl
def tU:type_of% @List.append_nil:=@List.append_nil
def tV:type_of% @List.find?_eq_none:=@List.find?_eq_none
def tW:type_of% @List.getElem?_append_left:=@List.getElem?_append_left
def tX:type_of% @List.getElem?_eq_none:=@List.getElem?_eq_none
def tY:type_of% @List.length_filter_le:=@List.length_filter_le
def tZ:type_of% @List.mem_of_getElem?:=@List.mem_of_getElem?
def vO:type_of% @List.all_cons:=@List.all_cons
def vP:type_of% @List.map_append:=@List.map_append
def vQ:type_of% @List.nodup_cons:=@List.nodup_cons
def vR:type_of% @Nat.div_le_self:=@Nat.div_le_self
def vS:type_of% @Nat.pow_add:=@Nat.pow_add
def vT:type_of% @Nat.two_pow_pos:=@Nat.two_pow_pos
def vU:type_of% @Nat.zero_le:=@Nat.zero_le
def vV:type_of% @Ne.symm:=@Ne.symm
def yI:type_of% @Array.toList_inj:=@Array.toList_inj
def yJ:type_of% @Bool.true_and:=@Bool.true_and
def yM:type_of% @List.getD_cons_zero:=@List.getD_cons_zero
def yN:type_of% @List.nil_append:=@List.nil_append
def yO:type_of% @List.take_length:=@List.take_length
def yP:type_of% @Option.bind_some:=@Option.bind_some
def A2:type_of% @Bool.and_false:=@Bool.and_false
def A3:type_of% @Bool.false_eq_true:=@Bool.false_eq_true
def A7:type_of% @List.any_eq_true:=@List.any_eq_true
def A8:type_of% @List.foldl_cons:=@List.foldl_cons
def A9:type_of% @List.length_pos_iff:=@List.length_pos_iff
def Ba:type_of% @List.map_congr_left:=@List.map_congr_left
def Bb:type_of% @List.mem_filterMap:=@List.mem_filterMap
def Bc:type_of% @List.mem_of_find?_eq_some:=@List.mem_of_find?_eq_some
def Bd:type_of% @List.takeWhile_cons:=@List.takeWhile_cons
def Be:type_of% @Nat.div_lt_iff_lt_mul:=@Nat.div_lt_iff_lt_mul
def Bf:type_of% @Nat.mul_assoc:=@Nat.mul_assoc
def Ew:type_of% @Array.getElem?_setIfInBounds:=@Array.getElem?_setIfInBounds
def Ex:type_of% @Array.getElem?_toList:=@Array.getElem?_toList
def Ey:type_of% @Array.length_toList:=@Array.length_toList
def Ez:type_of% @Bool.true_or:=@Bool.true_or
def EA:type_of% @Classical.byContradiction:=@Classical.byContradiction
def EE:type_of% @Int.min_eq_left:=@Int.min_eq_left
def EF:type_of% @Int.min_eq_right:=@Int.min_eq_right
def EG:type_of% @List.flatMap_cons:=@List.flatMap_cons
def EH:type_of% @List.getElem?_set:=@List.getElem?_set
def EI:type_of% @List.map_nil:=@List.map_nil
def EJ:type_of% @List.nodup_append:=@List.nodup_append
def EK:type_of% @List.take_of_length_le:=@List.take_of_length_le
def EM:type_of% @Nat.lt_of_lt_of_le:=@Nat.lt_of_lt_of_le
def EN:type_of% @Nat.mod_eq_of_lt:=@Nat.mod_eq_of_lt
def EO:type_of% @Option.some.inj:=@Option.some.inj
def JK:type_of% @Array.toList_map:=@Array.toList_map
def JL:type_of% @Bool.eq_false_iff:=@Bool.eq_false_iff
def JM:type_of% @Classical.em:=@Classical.em
def JO:type_of% @Int.mul_nonneg:=@Int.mul_nonneg
def JP:type_of% @List.ext_getElem:=@List.ext_getElem
def JQ:type_of% @List.find?_cons:=@List.find?_cons
def JR:type_of% @List.getD_cons_succ:=@List.getD_cons_succ
def JS:type_of% @List.getElem?_toArray:=@List.getElem?_toArray
def JT:type_of% @List.mem_flatMap:=@List.mem_flatMap
def JU:type_of% @List.mem_singleton:=@List.mem_singleton
def JV:type_of% @List.takeWhile_sublist:=@List.takeWhile_sublist
def JW:type_of% @Nat.add_assoc:=@Nat.add_assoc
def JX:type_of% @Nat.div_add_mod':=@Nat.div_add_mod'
def JY:type_of% @Nat.eq_zero_or_pos:=@Nat.eq_zero_or_pos
def JZ:type_of% @Nat.lt_or_ge:=@Nat.lt_or_ge
def J0:type_of% @Nat.one_mul:=@Nat.one_mul
def J1:type_of% @Nat.pow_succ:=@Nat.pow_succ
def Rk:type_of% @Array.eq_empty_of_size_eq_zero:=@Array.eq_empty_of_size_eq_zero
def Rl:type_of% @Array.ext':=@Array.ext'
def Rm:type_of% @Bool.or_false:=@Bool.or_false
def Rp:type_of% @Function.comp_def:=@Function.comp_def
def Rq:type_of% @Int.ediv_nonneg:=@Int.ediv_nonneg
def Rr:type_of% @Int.max_eq_left:=@Int.max_eq_left
def Rs:type_of% @Int.natCast_pow:=@Int.natCast_pow
def Ru:type_of% @List.any_eq_false:=@List.any_eq_false
def Rv:type_of% @List.cons_append:=@List.cons_append
def Rw:type_of% @List.find?_some:=@List.find?_some
def Rx:type_of% @List.getElem?_cons_zero:=@List.getElem?_cons_zero
def Ry:type_of% @List.map_map:=@List.map_map
def Rz:type_of% @List.range'_succ:=@List.range'_succ
def RA:type_of% @List.range_eq_range':=@List.range_eq_range'
def RB:type_of% @List.take_append_drop:=@List.take_append_drop
def RC:type_of% @Nat.div_eq_of_lt:=@Nat.div_eq_of_lt
def RD:type_of% @Nat.gcd_comm:=@Nat.gcd_comm
def RE:type_of% @Nat.le_div_iff_mul_le:=@Nat.le_div_iff_mul_le
def RF:type_of% @Nat.mul_add:=@Nat.mul_add
def RG:type_of% @Nat.sub_self:=@Nat.sub_self
def adY:type_of% @Array.getElem?_setIfInBounds_ne:=@Array.getElem?_setIfInBounds_ne
def adZ:type_of% @Array.getElem_mem:=@Array.getElem_mem
def ad0:type_of% @Array.mem_filter:=@Array.mem_filter
def ad1:type_of% @Bool.or_eq_false_iff:=@Bool.or_eq_false_iff
def ad4:type_of% @Int.fdiv_eq_ediv_of_nonneg:=@Int.fdiv_eq_ediv_of_nonneg
def ad5:type_of% @Int.max_eq_right:=@Int.max_eq_right
def ad7:type_of% @List.any_append:=@List.any_append
def ad8:type_of% @List.drop_eq_nil_iff:=@List.drop_eq_nil_iff
def ad9:type_of% @List.eq_nil_of_length_eq_zero:=@List.eq_nil_of_length_eq_zero
def aea:type_of% @List.ext_getElem?:=@List.ext_getElem?
def aeb:type_of% @List.flatten_cons:=@List.flatten_cons
def aec:type_of% @List.getElem?_cons_succ:=@List.getElem?_cons_succ
def aed:type_of% @List.getElem_set:=@List.getElem_set
def aee:type_of% @List.isEmpty_iff:=@List.isEmpty_iff
def aef:type_of% @List.length_eq_zero_iff:=@List.length_eq_zero_iff
def aeg:type_of% @List.mapM_cons:=@List.mapM_cons
def aeh:type_of% @List.mem_of_mem_take:=@List.mem_of_mem_take
def aei:type_of% @List.nodup_range:=@List.nodup_range
def aej:type_of% @List.pairwise_cons:=@List.pairwise_cons
def aek:type_of% @List.range_succ:=@List.range_succ
def aen:type_of% @Nat.add_mul_div_left:=@Nat.add_mul_div_left
def aeo:type_of% @Nat.div_div_eq_div_mul:=@Nat.div_div_eq_div_mul
def aep:type_of% @Nat.gcd_le_left:=@Nat.gcd_le_left
def aeq:type_of% @Nat.lt_of_le_of_lt:=@Nat.lt_of_le_of_lt
def aer:type_of% @Nat.lt_of_not_le:=@Nat.lt_of_not_le
def aes:type_of% @Nat.mul_le_mul_left:=@Nat.mul_le_mul_left
def aet:type_of% @Option.isSome_iff_exists:=@Option.isSome_iff_exists
def aeu:type_of% @Option.map_map:=@Option.map_map
def aoY:type_of% @List.drop_eq_getElem_cons:=@List.drop_eq_getElem_cons
def aoZ:type_of% @List.eq_nil_iff_forall_not_mem:=@List.eq_nil_iff_forall_not_mem
def ao0:type_of% @List.getElem?_replicate:=@List.getElem?_replicate
def ao1:type_of% @List.mem_take_iff_getElem:=@List.mem_take_iff_getElem
def ao7:type_of% @Nat.add_mul_mod_self_left:=@Nat.add_mul_mod_self_left
def ao8:type_of% @Nat.add_mul_mod_self_right:=@Nat.add_mul_mod_self_right
def ao9:type_of% @Nat.gcd_pos_of_pos_left:=@Nat.gcd_pos_of_pos_left
inductive D where
 |v (x:Value)
 |agg (cs:List D)
 |list (xs:List D)
 |map (es:List (D×D))
 |ref (d:D)
 |clo (f:Nat) (caps:List D)
 |tup (ds:List D)
 |none
 deriving Inhabited
namespace D
def int (n:Int):D:=.v (.int .i64 n)
def bool (b:Bool):D:=.v (.bool b)
def i:D->Int|.v (.int _ n)=>n|_=>0
def b:D->Bool|.v (.bool x)=>x|_=>false
def s:D->ByteArray|.v (.string x)=>x|_=>ByteArray.empty
def cells:D->List D|.agg cs=>cs|d=>[d]
def c (d:D)(k:Nat):D:=d.cells.getD k .none
def l:D->List D|.list xs=>xs|_=>[]
def m:D->List (D×D)|.map es=>es|_=>[]
def tget:D->Nat->D|.tup ds,k=>ds.getD k .none|_,_=>.none
def deref:D->D|.ref d=>d|_=>.none
def fn:D->Nat|.clo f _=>f|_=>0
def caps:D->List D|.clo _ cs=>cs|_=>[]
end D
inductive Ty where
 |int (k:IntKind)
 |bool
 |str
 |agg (ts:List Ty)
 |slice (e:Ty)
 |nils (e:Ty)
 /--a slice Em is nil if it is empty-/
 |nsl (e:Ty)
 |map (k e:Ty)
 |ref (t:Ty)
 |fn (args:List Ty) (res:Ty)
 |tup (ts:List Ty)
 |trm
 deriving Inhabited,Repr
def Ty.size:Ty->Nat
 |.agg ts=>ts.length
 |.trm=>3
 |_=>1
def Ty.one:Ty->Bool
 |.agg _|.tup _|.trm=>false
 |_=>true
def Ty.rowT:Ty->Bool
 |.agg _=>true
 |_=>false
mutual
def Ty.beq:Ty->Ty->Bool
 |.int a,.int b=>a==b
 |.bool,.bool|.str,.str|.trm,.trm=>true
 |.fn a r,.fn b s=>Ty.beqs a b&&Ty.beq r s
 |.agg a,.agg b=>Ty.beqs a b
 |.tup a,.tup b=>Ty.beqs a b
 |.slice a,.slice b=>Ty.beq a b
 |.nils a,.nils b=>Ty.beq a b
 |.nsl a,.nsl b=>Ty.beq a b
 |.ref a,.ref b=>Ty.beq a b
 |.map a b,.map c d=>Ty.beq a c&&Ty.beq b d
 |_,_=>false
def Ty.beqs:List Ty->List Ty->Bool
 |[],[]=>true
 |a::aa,b::bs=>Ty.beq a b&&Ty.beqs aa bs
 |_,_=>false
end
mutual
def Ty.beq_eq:∀a b:Ty,Ty.beq a b=true->a=b
 |.int a,b,h=>by cases b<;>simp_all [Ty.beq]
 |.bool,b,h=>by cases b<;>simp_all [Ty.beq]
 |.str,b,h=>by cases b<;>simp_all [Ty.beq]
 |.trm,b,h=>by cases b<;>simp_all [Ty.beq]
 |.fn a r,b,h=>by
  cases b with
  |fn b s=>simp only[Ty.beq,aA] at h;rw[Ty.beqs_eq a b h.1,Ty.beq_eq r s h.2]
  |_=>simp[Ty.beq] at h
 |.agg a,b,h=>by
  cases b with
  |agg b=>simp only[Ty.beq] at h;rw[Ty.beqs_eq a b h]
  |_=>simp[Ty.beq] at h
 |.tup a,b,h=>by
  cases b with
  |tup b=>simp only[Ty.beq] at h;rw[Ty.beqs_eq a b h]
  |_=>simp[Ty.beq] at h
 |.slice a,b,h=>by
  cases b with
  |slice b=>simp only[Ty.beq] at h;rw[Ty.beq_eq a b h]
  |_=>simp[Ty.beq] at h
 |.nils a,b,h=>by
  cases b with
  |nils b=>simp only[Ty.beq] at h;rw[Ty.beq_eq a b h]
  |_=>simp[Ty.beq] at h
 |.nsl a,b,h=>by
  cases b with
  |nsl b=>simp only[Ty.beq] at h;rw[Ty.beq_eq a b h]
  |_=>simp[Ty.beq] at h
 |.ref a,b,h=>by
  cases b with
  |ref b=>simp only[Ty.beq] at h;rw[Ty.beq_eq a b h]
  |_=>simp[Ty.beq] at h
 |.map a c,b,h=>by
  cases b with
  |map b d=>simp only[Ty.beq,aA] at h;rw[Ty.beq_eq a b h.1,Ty.beq_eq c d h.2]
  |_=>simp[Ty.beq] at h
def Ty.beqs_eq:∀a b:List Ty,Ty.beqs a b=true->a=b
 |[],b,h=>by cases b<;>simp_all [Ty.beqs]
 |x::a,b,h=>by
  cases b with
  |nil=>simp[Ty.beqs] at h
  |cons y b=>simp only[Ty.beqs,aA] at h;rw[Ty.beq_eq x y h.1,Ty.beqs_eq a b h.2]
end
mutual
def Ty.beq_refl:∀a:Ty,Ty.beq a a=true
 |.int a=>by simp[Ty.beq]
 |.bool=>rfl
 |.str=>rfl
 |.trm=>rfl
 |.fn a r=>by simp only[Ty.beq,aA];exact⟨Ty.beqs_refl a,Ty.beq_refl r⟩
 |.agg a=>by simp only[Ty.beq];exact Ty.beqs_refl a
 |.tup a=>by simp only[Ty.beq];exact Ty.beqs_refl a
 |.slice a=>by simp only[Ty.beq];exact Ty.beq_refl a
 |.nils a=>by simp only[Ty.beq];exact Ty.beq_refl a
 |.nsl a=>by simp only[Ty.beq];exact Ty.beq_refl a
 |.ref a=>by simp only[Ty.beq];exact Ty.beq_refl a
 |.map a b=>by simp only[Ty.beq,aA];exact⟨Ty.beq_refl a,Ty.beq_refl b⟩
def Ty.beqs_refl:∀a:List Ty,Ty.beqs a a=true
 |[]=>rfl
 |x::a=>by simp only[Ty.beqs,aA];exact⟨Ty.beq_refl x,Ty.beqs_refl a⟩
end
def Ty.trmA:Ty:=.agg [.int .i64,.int .i64,.slice .trm]
def Ty.unf:Ty->Ty
 |.trm=>.trmA
 |t=>t
def Ty.rol (t:Ty):Ty:=bif Ty.beq t .trmA then .trm else t
def Ty.unf_size (t:Ty):t.unf.size=t.size:=by cases t<;>rfl
def Ty.rol_size (t:Ty):t.rol.size=t.size:=by
 unfold Ty.rol;cases h:Ty.beq t .trmA with
 |true=>rw[Ty.beq_eq t .trmA h];rfl
 |false=>rfl
def Ty.unf_rol (t:Ty):t.rol.unf=t.unf:=by
 unfold Ty.rol;cases h:Ty.beq t .trmA with
 |true=>rw[Ty.beq_eq t .trmA h];rfl
 |false=>rfl
def Ty.unf_ro {t:Ty}(h:t.rowT=true\/t.one=true):t.unf=t:=by
 cases t with
 |trm=>simp[Ty.rowT,Ty.one] at h
 |_=>rfl
structure CSig where
 caps:List Ty
 args:List Ty
 res:Ty
 deriving Inhabited
structure Im where
 c:Nat->Nat->Option Value
 m:Nat->Option (List (Value×Value))
structure Im.le (H τ:Im):Prop where
 c:∀k o v,H.c k o=some v->τ.c k o=some v
 m:∀k es,H.m k=some es->τ.m k=some es
def Im.le.refl (H:Im):H.le H:=⟨λ_ _ _ h=>h,λ_ _ h=>h⟩
def Im.le.trans {a b c:Im}(h:a.le b)(k:b.le c):a.le c:=⟨λx y z e=>k.c _ _ _ (h.c x y z e),λx y e=>k.m _ _ (h.m x y e)⟩
def entriesOf (es:Array MapEntry):List (Value×Value):=es.toList.map λe=>(e.key,e.val)
def fZ:List (Value×Value):=[(.nilIface,.nilIface)]
def sS (w:World)(k:Nat)(es:List (Value×Value)):Prop:=(es≠fZ/\∃arr clock,w.heap[k]?=some (.map arr clock)/\entriesOf arr=es)\/(es=fZ/\w.heap[k]?=some (.deferred (some [])))
def sS.lt {w:World}{k:Nat}{es:List (Value×Value)}(h:sS w k es):k<w.heap.size:=by
 rcases h with⟨_,_,_,h,_⟩|⟨_,h⟩<;>exact(ij.1 h).1
def sS.keep {w w':World}{k:Nat}{es:List (Value×Value)}(h:sS w k es)(e:w'.heap[k]?=w.heap[k]?):sS w' k es:=by
 unfold sS;rw[e];exact h
structure Im.ok (H:Im) (w:World):Prop where
 c:∀k o v,H.c k o=some v->w.cell? ⟨k,o,none⟩=some v
 m:∀k es,H.m k=some es->sS w k es
inductive Rep (cap:Nat->Option CSig) (H:Im):Ty->Value->D->Prop where
 |int (k:IntKind) (n:Int) (h1:k.min<=n) (h2:n<=k.max):Rep cap H (.int k) (.int k n) (.v (.int k n))
 |bool (b:Bool):Rep cap H .bool (.bool b) (.v (.bool b))
 |str (s:ByteArray) (h:s.size<=maxLen):Rep cap H .str (.string s) (.v (.string s))
 |agg (ts:List Ty) (vs:List Value) (ds:List D) (h1:vs.length=ts.length) (h2:ds.length=ts.length)
   (h:∀(i:Nat) (t:Ty),ts[i]?=some t->Rep cap H t (vs.getD i undef) (ds.getD i .none)) (ho:∀(i:Nat) (t:Ty),ts[i]?=some t->t.one=true):Rep cap H (.agg ts) (.agg vs.toArray) (.agg ds)
 |tup (ts:List Ty) (vs:List Value) (ds:List D) (h1:vs.length=ts.length) (h2:ds.length=ts.length)
   (h:∀(i:Nat) (t:Ty),ts[i]?=some t->Rep cap H t (vs.getD i undef) (ds.getD i .none)):Rep cap H (.tup ts) (.tuple vs.toArray) (.tup ds)
 |nil (e:Ty):Rep cap H (.slice e) (.slice none 0 0) (.list [])
 |emp (e:Ty) (a:Addr):Rep cap H (.slice e) (.slice (some a) 0 0) (.list [])
 |nils (e:Ty):Rep cap H (.nils e) (.slice none 0 0) (.list [])
 |nsl0 (e:Ty):Rep cap H (.nsl e) (.slice none 0 0) (.list [])
 |nsl (e:Ty) (k o n c:Nat) (xs:List D) (h:Rep cap H (.slice e) (.slice (some ⟨k,o,none⟩) n c) (.list xs)) (hx:xs≠[]):Rep cap H (.nsl e) (.slice (some ⟨k,o,none⟩) n c) (.list xs)
 |slice (e:Ty) (k o n c:Nat) (xs:List D) (vs:Nat->Value) (hn:xs.length=n) (hc:n<=c) (hm:c<=maxLen)
   (h:∀(i:Nat) (x:D),xs[i]?=some x->Rep cap H e.unf (vs i) x)
   (hv:∀(i j:Nat) (u:Value),i<n->(vs i).cells[j]?=some u->H.c k (o+i*e.size+j)=some u):Rep cap H (.slice e) (.slice (some ⟨k,o,none⟩) n c) (.list xs)
 |mapnil (kt et:Ty):Rep cap H (.map kt et) (.map none) (.map [])
 |map (kt et:Ty) (r:Nat) (j0:List (Value×Value)) (es:List (D×D)) (hm:H.m r=some j0) (hl:es.length=j0.length) (hx:es.length<=maxLen)
   (hk:∀(i:Nat) (p:Value×Value) (q:D×D),j0[i]?=some p->es[i]?=some q->Rep cap H kt p.1 q.1)
   (he:∀(i:Nat) (p:Value×Value) (q:D×D),j0[i]?=some p->es[i]?=some q->Rep cap H et p.2 q.2):Rep cap H (.map kt et) (.map (some r)) (.map es)
 |ref (t:Ty) (k o:Nat) (v:Value) (d:D) (h:Rep cap H t v d) (hv:∀(j:Nat) (u:Value),v.cells[j]?=some u->H.c k (o+j)=some u):
   Rep cap H (.ref t) (.pointer (some ⟨k,o,none⟩)) (.ref d)
 |fn (f:Nat) (cs:CSig) (vs:List Value) (ds:List D) (hc:cap f=some cs) (h1:vs.length=cs.caps.length) (h2:ds.length=cs.caps.length)
   (h:∀(i:Nat) (t:Ty),cs.caps[i]?=some t->Rep cap H t (vs.getD i undef) (ds.getD i .none)):Rep cap H (.fn cs.args cs.res) (.func (.func f) #[] vs.toArray) (.clo f ds)
 |fnnil (aa:List Ty) (r:Ty):Rep cap H (.fn aa r) .nilFunc (.v .nilFunc)
def Rep.mono {cap:Nat->Option CSig}{H τ:Im}(hle:H.le τ){t:Ty}{v:Value}{d:D}(h:Rep cap H t v d):Rep cap τ t v d:=by
 induction h with
 |int k n h1 h2=>exact .int k n h1 h2
 |bool b=>exact .bool b
 |str s h=>exact .str s h
 |agg ts vs ds h1 h2 _ ho ih=>exact .agg ts vs ds h1 h2 ih ho
 |tup ts vs ds h1 h2 _ ih=>exact .tup ts vs ds h1 h2 ih
 |nil e=>exact .nil e
 |emp e a=>exact .emp e a
 |nils e=>exact .nils e
 |nsl0 e=>exact .nsl0 e
 |nsl e k o n c xs _ hx ih=>exact .nsl e k o n c xs ih hx
 |slice e k o n c xs vs hn hc hm _ hv ih=>exact .slice e k o n c xs vs hn hc hm ih λi j u hi hu=>hle.c _ _ _ (hv i j u hi hu)
 |mapnil kt et=>exact .mapnil kt et
 |map kt et r j0 es hm hl hx _ _ kO Hf=>exact .map kt et r j0 es (hle.m _ _ hm) hl hx kO Hf
 |ref t k o v d _ hv ih=>exact .ref t k o v d ih λj u hu=>hle.c _ _ _ (hv j u hu)
 |fn f cs vs ds hc h1 h2 _ ih=>exact .fn f cs vs ds hc h1 h2 ih
 |fnnil aa r=>exact .fnnil aa r
def Im.drop (H:Im)(D:Nat):Im:=⟨H.c,λk=>if k=D then none else H.m k⟩
structure Im.leR (cap:Nat->Option CSig) (H τ:Im):Prop where
 rep:∀{t:Ty} {v:Value} {d:D},Rep cap H t v d->Rep cap τ t v d
 c:∀k o v,H.c k o=some v->τ.c k o=some v
def Im.le.leR {cap:Nat->Option CSig}{H τ:Im}(h:H.le τ):Im.leR cap H τ:=⟨λr=>r.mono h,h.c⟩
def Hz {cap:Nat->Option CSig}{H:Im}{kt:Ty}{j0:List (Value×Value)}{es:List (D×D)}(hl:es.length=j0.length)
 (hk:∀(i:Nat) (p:Value×Value) (q:D×D),j0[i]?=some p->es[i]?=some q->Rep cap H kt p.1 q.1):j0≠fZ:=by
 rintro rfl
 match es,hl with
 |[q],_=>have:=hk 0 _ q rfl rfl;cases this
def Rep.drop {cap:Nat->Option CSig}{H:Im}{Dd:Nat}(hD:H.m Dd=some fZ){t:Ty}{v:Value}{d:D}(h:Rep cap H t v d):Rep cap (H.drop Dd) t v d:=by
 induction h with
 |int k n h1 h2=>exact .int k n h1 h2
 |bool b=>exact .bool b
 |str s h=>exact .str s h
 |agg ts vs ds h1 h2 _ ho ih=>exact .agg ts vs ds h1 h2 ih ho
 |tup ts vs ds h1 h2 _ ih=>exact .tup ts vs ds h1 h2 ih
 |nil e=>exact .nil e
 |emp e a=>exact .emp e a
 |nils e=>exact .nils e
 |nsl0 e=>exact .nsl0 e
 |nsl e k o n c xs _ hx ih=>exact .nsl e k o n c xs ih hx
 |slice e k o n c xs vs hn hc hm _ hv ih=>exact .slice e k o n c xs vs hn hc hm ih hv
 |mapnil kt et=>exact .mapnil kt et
 |map kt et r j0 es hm hl hx hk _ kO Hf=>
  refine .map kt et r j0 es ?_ hl hx kO Hf;have aI:r≠Dd:=λe=>by subst e;rw[hm] at hD;cases hD;exact Hz hl hk rfl
  simp[Im.drop,aI,hm]
 |ref t k o v d _ hv ih=>exact .ref t k o v d ih hv
 |fn f cs vs ds hc h1 h2 _ ih=>exact .fn f cs vs ds hc h1 h2 ih
 |fnnil aa r=>exact .fnnil aa r
def Rep.unf {cap:Nat->Option CSig}{H:Im}{t:Ty}{v:Value}{d:D}(h:Rep cap H t v d):Rep cap H t.unf v d:=by
 cases t with
 |trm=>cases h
 |_=>exact h
def Rep.unf_rol {cap:Nat->Option CSig}{H:Im}{t:Ty}{v:Value}{d:D}(h:Rep cap H t v d):Rep cap H t.rol.unf v d:=by
 rw[Ty.unf_rol];exact h.unf
def Rep.size {cap:Nat->Option CSig}{H:Im}{t:Ty}{v:Value}{d:D}(h:Rep cap H t v d):v.cells.size=t.size:=by
 cases h<;>simp_all [Value.cells,Ty.size]
def Rep.oneCell {cap:Nat->Option CSig}{H:Im}{t:Ty}{v:Value}{d:D}(h:Rep cap H t v d)(ht:t.one=true):v.cells=#[v]/\v.oneCell'=true:=by
 cases h<;>simp_all [Value.cells,Ty.one,Value.oneCell']
def D.b_bool (x:Bool):(D.v (.bool x)).b=x:=rfl
def D.i_int (k:IntKind)(n:Int):(D.v (.int k n)).i=n:=rfl
def D.s_str (x:ByteArray):(D.v (.string x)).s=x:=rfl
def D.l_list (x:List D):(D.list x).l=x:=rfl
structure Env where
 r:Nat->D
 o:Nat->D
def cL {α:Type}(f:Nat->α)(i:Nat)(x:α):Nat->α:=λj=>bif Nat.beq j i then x else f j
def gS {i j:Nat}(h:j≠i):Nat.beq j i=false:=by
 cases h':Nat.beq j i
 .rfl
 .exact absurd (aK h') h
def bh {α:Type}(f:Nat->α)(i:Nat)(x:α):cL f i x i=x:=by simp[cL]
def bU {α:Type}(f:Nat->α){i j:Nat}(x:α)(h:j≠i):cL f i x j=f j:=by simp[cL,gS h]
def ic {α:Type}(f:Nat->α)(i j:Nat)(x:α):cL f i x j=if j=i then x else f j:=by
 by_cases h:j=i
 .subst h;simp[cL]
 .simp[cL,gS h,h]
def Env.setR (Z:Env)(t:Nat)(d:D):Env:={Z with r:=cL Z.r t d}
def Env.setO (Z:Env)(j:Nat)(d:D):Env:={Z with o:=cL Z.o j d}
inductive PE where
 |r (t:Nat)|o (j:Nat)|con (d:D)
 |cell (e:PE) (i:Nat)
 |sub (e:PE) (off n:Nat)
 |setc (e:PE) (off:Nat) (x:PE)
 |mk (es:List PE)
 |ai (op:BinOp) (k:IntKind) (x y:PE)
 |ci (op:BinOp) (x y:PE)
 |cb (op:BinOp) (x y:PE)
 |cs (op:BinOp) (x y:PE)
 |sadd (x y:PE)
 |nt (x:PE)
 |conv (k:IntKind) (x:PE)
 |pick (c a b:PE)
 |llen (x:PE)|slen (x:PE)|mlen (x:PE)|bytes (x:PE)
 |nth (x i:PE)|idx (x i:PE)|sidx (x i:PE)|sok (x i:PE)
 |setn (x i:PE) (off:Nat) (y:PE)
 |app (x y:PE)|lst (es:List PE)|rep (n z:PE)
 |slc (x lo hi:PE)|slok (x lo hi:PE)
 |ref (x:PE)|deref (x:PE)
 |look (m k z:PE)|has (m k:PE)|put (m k v:PE)
 |mn (x y:PE)|mx (x y:PE)
 |tup (es:List PE)|tget (e:PE) (i:Nat)
 |clo (f:Nat) (es:List PE)
 |an (x y:PE)|imp (c:List (Nat×Bool)) (x:PE)
 deriving Inhabited
def bO (op:BinOp)(k:IntKind)(a b:Int):Int:=
 match op with
 |.add=>k.wrap (a+b)
 |.sub=>k.wrap (a-b)
 |.mul=>k.wrap (a*b)
 |.quo=>k.wrap (a.tdiv b)
 |.rem=>a.tmod b
 |.and=>k.wrap (BitVec.ofInt k.bits a&&& BitVec.ofInt k.bits b).toNat
 |.or=>k.wrap (BitVec.ofInt k.bits a|||BitVec.ofInt k.bits b).toNat
 |.xor=>k.wrap (BitVec.ofInt k.bits a^^^BitVec.ofInt k.bits b).toNat
 |.andNot=>k.wrap (BitVec.ofInt k.bits a&&& ~~~BitVec.ofInt k.bits b).toNat
 |.shl=>k.wrap (a*2^(min b.toNat k.bits))
 |.shr=>a.fdiv (2^(min b.toNat k.bits))
 |_=>0
def jm (op:BinOp)(a b:Int):Bool:=
 match op with
 |.eql=>a==b|.neq=>a !=b|.lss=>decide (a<b)|.leq=>decide (a<=b)|.gtr=>decide (a>b)|.geq=>decide (a>=b)
 |_=>false
def zc (op:BinOp)(x y:ByteArray):Bool:=
 let eq:=x.toList==y.toList
 let lt:=Op.bytesLess x.toList y.toList
 match op with
 |.eql=>eq|.neq=> !eq|.lss=>lt|.leq=>lt||eq|.gtr=> !(lt||eq)|.geq=> !lt
 |_=>false
def zb (op:BinOp)(x y:Bool):Bool:=
 match op with
 |.eql=>x==y|.neq=> !(x==y)
 |_=>false
def oV:D->D->Bool
 |.v (.int _ a),.v (.int _ b)=>a==b
 |.v (.string a),.v (.string b)=>a==b
 |.v (.bool a),.v (.bool b)=>a==b
 |_,_=>false
def ko:List D->List D->Bool
 |[],[]=>true
 |a::aa,b::bs=>oV a b&&ko aa bs
 |_,_=>false
def dJ (a b:D):Bool:=ko a.cells b.cells
def eO (k:D):List (D×D)->Option D
 |[]=>Option.none
 |e::es=>if dJ k e.1 then some e.2 else eO k es
def ez (k v:D):List (D×D)->List (D×D)
 |[]=>[(k,v)]
 |e::es=>if dJ k e.1 then(k,v)::es else e::ez k v es
def dp (xs:List D)(off:Nat)(ys:List D):List D:=xs.take off++ys++xs.drop (off+ys.length)
def tG (x:D)(off:Nat)(y:D):D:=
 match x with
 |.agg cs=>.agg (dp cs off y.cells)
 |_=>y
def holds (gs:List (Nat×Bool))(Z:Env):Bool:=gs.all λg=>(Z.r g.1).b==g.2
mutual
def PE.ev (Z:Env):PE->D
 |.r t=>Z.r t
 |.o j=>Z.o j
 |.con d=>d
 |.cell e i=>(PE.ev Z e).c i
 |.sub e off n=>.agg (((PE.ev Z e).cells.drop off).take n)
 |.setc e off x=>.agg (dp (PE.ev Z e).cells off (PE.ev Z x).cells)
 |.mk es=>.agg (PE.evc Z es)
 |.ai op k x y=>.v (.int k (bO op k (PE.ev Z x).i (PE.ev Z y).i))
 |.ci op x y=>.v (.bool (jm op (PE.ev Z x).i (PE.ev Z y).i))
 |.cb op x y=>.v (.bool (zb op (PE.ev Z x).b (PE.ev Z y).b))
 |.cs op x y=>.v (.bool (zc op (PE.ev Z x).s (PE.ev Z y).s))
 |.sadd x y=>.v (.string ((PE.ev Z x).s++(PE.ev Z y).s))
 |.nt x=>.v (.bool (!(PE.ev Z x).b))
 |.conv k x=>.v (.int k (k.wrap (PE.ev Z x).i))
 |.pick c a b=>bif (PE.ev Z c).b then PE.ev Z a else PE.ev Z b
 |.llen x=>.v (.int .i64 (PE.ev Z x).l.length)
 |.slen x=>.v (.int .i64 (PE.ev Z x).s.size)
 |.bytes x=>.list ((PE.ev Z x).s.data.toList.map λb=>.v (.int .u8 b.toNat))
 |.mlen x=>.v (.int .i64 (PE.ev Z x).m.length)
 |.nth x i=>(PE.ev Z x).l.getD (PE.ev Z i).i.toNat .none
 |.idx x i=>.v (.bool (decide (0<=(PE.ev Z i).i/\(PE.ev Z i).i<(PE.ev Z x).l.length)))
 |.sidx x i=>.v (.int .u8 ((PE.ev Z x).s.data.getD (PE.ev Z i).i.toNat 0).toNat)
 |.sok x i=>.v (.bool (decide (0<=(PE.ev Z i).i/\(PE.ev Z i).i<(PE.ev Z x).s.size)))
 |.setn x i off y=>.list ((PE.ev Z x).l.set (PE.ev Z i).i.toNat (tG ((PE.ev Z x).l.getD (PE.ev Z i).i.toNat .none) off (PE.ev Z y)))
 |.app x y=>.list ((PE.ev Z x).l++(PE.ev Z y).l)
 |.lst es=>.list (PE.evs Z es)
 |.rep n z=>.list (List.replicate (PE.ev Z n).i.toNat (PE.ev Z z))
 |.slc x lo hi=>.list (((PE.ev Z x).l.take (PE.ev Z hi).i.toNat).drop (PE.ev Z lo).i.toNat)
 |.slok x lo hi=>.v (.bool (decide (0<=(PE.ev Z lo).i/\(PE.ev Z lo).i<=(PE.ev Z hi).i/\(PE.ev Z hi).i<=(PE.ev Z x).l.length)))
 |.ref x=>.ref (PE.ev Z x)
 |.deref x=>(PE.ev Z x).deref
 |.look m k z=>(eO (PE.ev Z k) (PE.ev Z m).m).getD (PE.ev Z z)
 |.has m k=>.v (.bool (eO (PE.ev Z k) (PE.ev Z m).m).isSome)
 |.put m k v=>.map (ez (PE.ev Z k) (PE.ev Z v) (PE.ev Z m).m)
 |.mn x y=>bif decide ((PE.ev Z y).i<(PE.ev Z x).i) then PE.ev Z y else PE.ev Z x
 |.mx x y=>bif decide ((PE.ev Z y).i>(PE.ev Z x).i) then PE.ev Z y else PE.ev Z x
 |.tup es=>.tup (PE.evs Z es)
 |.tget e i=>(PE.ev Z e).tget i
 |.clo f es=>.clo f (PE.evs Z es)
 |.an x y=>.v (.bool ((PE.ev Z x).b&&(PE.ev Z y).b))
 |.imp c x=>.v (.bool (!holds c Z||(PE.ev Z x).b))
def PE.evs (Z:Env):List PE->List D
 |[]=>[]
 |e::es=>PE.ev Z e::PE.evs Z es
def PE.evc (Z:Env):List PE->List D
 |[]=>[]
 |e::es=>(PE.ev Z e).cells++PE.evc Z es
end
def PE.evs_eq (Z:Env)(es:List PE):PE.evs Z es=es.map (PE.ev Z):=by
 induction es with
 |nil=>rfl
 |cons e es ih=>simp[PE.evs,ih]
inductive PI where
 |setR (t:Nat) (e:PE)
 |setO (j:Nat) (e:PE)
 |chk (e:PE)
 |call (gs:List (Nat×Bool)) (dst:Nat) (f:Nat) (args:List PE)
 |callc (gs:List (Nat×Bool)) (dst:Nat) (e:PE) (args:List PE)
 |mcall (j:Nat) (f:Nat) (args:List PE)
 deriving Inhabited
abbrev bf:=Nat->List D->Option D
def PI.run (V:bf)(Z:Env):PI->Option Env
 |.setR t e=>some (Z.setR t (e.ev Z))
 |.setO j e=>some (Z.setO j (e.ev Z))
 |.chk e=>bif (e.ev Z).b then some Z else none
 |.call gs dst f args=>bif holds gs Z then(V f (PE.evs Z args)).map (Z.setR dst) else some Z
 |.callc gs dst e args=>bif holds gs Z then(match e.ev Z with|.clo f caps=>(V f (PE.evs Z args++caps)).map (Z.setR dst)|_=>none) else some Z
 |.mcall j f args=>(V f (PE.evs Z args)).map (Z.setO j)
def PI.runs (V:bf):List PI->Env->Option Env
 |[],Z=>some Z
 |x::xs,Z=>(x.run V Z).bind (PI.runs V xs)
inductive PC where
 |skip
 |is (l:List PI)
 |seq (a b:PC)
 |ite (c:PE) (lr lo:List Nat) (a b:PC)
 |block (id:Nat) (lr lo:List Nat) (a:PC)
 |loop (lr lo:List Nat) (a:PC)
 |exit (id:Nat)
 |ret (e:PE)
 /--for each element of a list:tI ane 'ps' R2 its parts;rt:Es a return in tI body aMi back-/
 |each (e:PE) (ps lo:List Nat) (rt:Option PE) (a:PC)
 /--for each entry of a map,in aOW order:tI ane 'ps' R2 its parts 'aOg;J:Es has aeP seen,and tI map-/
 |meach (J:Nat) (ps dz lo:List Nat) (a:PC)
 deriving Inhabited
def db:Nat:=1000000007
inductive Out where
 |next (Z:Env)
 |exit (id:Nat) (Z:Env)
 |ret (d:D)
def putL (f:Nat->D):List Nat->List D->Nat->D
 |i::is,x::xs=>cL (putL f is xs) i x
 |_,_=>f
def Env.put (Z:Env)(lr:List Nat)(vr:List D)(lo:List Nat)(vo:List D):Env:=⟨putL Z.r lr vr,putL Z.o lo vo⟩
def Env.join (Z:Env)(lr lo:List Nat)(Z':Env):Env:=Z.put lr (lr.map Z'.r) lo (lo.map Z'.o)
def vf (f g:Nat->D)(l:List Nat)(t:Nat):putL f l (l.map g) t=if t∈l then g t else f t:=by
 induction l with
 |nil=>rfl
 |cons i is ih=>
  simp only[j6,putL,ic,ih,dG];by_cases h:t=i
  .subst h;simp
  .simp[h]
def iY (body:Env->Option Out)(Z:Env)(lr lo:List Nat):Nat->List D->List D->Option Out
 |0,_,_=>none
 |n+1,vr,vo=>
  match body (Z.put lr vr lo vo) with
  |some (.next Z')=>iY body Z lr lo n (lr.map Z'.r) (lo.map Z'.o)
  |x=>x
def partsOf (ps:List Nat)(x:D):List D:=(List.range ps.length).map x.tget
def jn (body:Env->Option Out)(Z:Env)(ps lo:List Nat)(rt:Option PE):List D->List D->Option Out
 |[],vo=>some (.next (Z.put [] [] lo vo))
 |x::xs,vo=>
  match body (Z.put ps (partsOf ps x) lo vo) with
  |some (.next Z')=>jn body Z ps lo rt xs (lo.map Z'.o)
  |some (.exit id Z')=>bif Nat.beq id db then rt.map (λe=>.ret (e.ev (Z.put [] [] lo (lo.map Z'.o)))) else some (.exit id (Z.put [] [] lo (lo.map Z'.o)))
  |_=>none
def qj (body:Env->Option Out)(Z:Env)(J:Nat)(es:D)(ps dz lo:List Nat):List D->List D->List D->Option (List D)
 |[],_,vo=>some vo
 |x::xs,done,vo=>
  match body ((Z.put ps (dz.map x.tget) lo vo).setO J (.tup [.list (done++[x]),es])) with
  |some (.next Z')=>qj body Z J es ps dz lo xs (done++[x]) (lo.map Z'.o)
  |_=>none
def iZ (es:D):List D:=es.m.map λp=>.tup [p.1,p.2]
def O2 (body:Env->Option Out)(Z:Env)(J:Nat)(ps dz lo:List Nat)(vo:List D):Prop:=
 (Z.o J).tget 0=.list []/\∀ys:List D,ys.Perm (iZ ((Z.o J).tget 1))->qj body Z J ((Z.o J).tget 1) ps dz lo ys [] (lo.map Z.o)=some vo
open Classical in
def O3 (body:Env->Option Out)(Z:Env)(J:Nat)(ps dz lo:List Nat):Option Out:=
 if h:∃vo,O2 body Z J ps dz lo vo then some (.next (Z.put [] [] lo h.choose)) else none
def DS {body:Env->Option Out}{Z:Env}{J:Nat}{ps dz lo:List Nat}{x:Out}:O3 body Z J ps dz lo=some x↔∃vo,O2 body Z J ps dz lo vo/\x=.next (Z.put [] [] lo vo):=by
 unfold O3;constructor
 .intro h;split at h
  .rename_i hh;cases h;exact⟨_,hh.choose_spec,rfl⟩
  .cases h
 .rintro⟨vo,h,rfl⟩;have hh:∃vo,O2 body Z J ps dz lo vo:=⟨vo,h⟩
  rw[dif_pos hh];have:=(hh.choose_spec.2 _ (List.Perm.refl _)).symm.trans (h.2 _ (List.Perm.refl _));rw[EO this]
def PC.ev (V:bf)(n:Nat):PC->Env->Option Out
 |.skip,Z=>some (.next Z)
 |.is l,Z=>(PI.runs V l Z).map .next
 |.seq a b,Z=>
  match PC.ev V n a Z with
  |some (.next Z')=>PC.ev V n b Z'
  |x=>x
 |.ite c lr lo a b,Z=>
  match(bif (c.ev Z).b then PC.ev V n a Z else PC.ev V n b Z) with
  |some (.next Z')=>some (.next (Z.join lr lo Z'))
  |x=>x
 |.block id lr lo a,Z=>
  match PC.ev V n a Z with
  |some (.next Z')=>some (.next (Z.join lr lo Z'))
  |some (.exit cg Z')=>bif Nat.beq cg id then some (.next (Z.join lr lo Z')) else some (.exit cg Z')
  |x=>x
 |.loop lr lo a,Z=>iY (PC.ev V n a) Z lr lo n (lr.map Z.r) (lo.map Z.o)
 |.exit id,Z=>some (.exit id Z)
 |.ret e,Z=>some (.ret (e.ev Z))
 |.each e ps lo rt a,Z=>jn (PC.ev V n a) Z ps lo rt (e.ev Z).l (lo.map Z.o)
 |.meach J ps dz lo a,Z=>O3 (PC.ev V n a) Z J ps dz lo
def PI.modR:PI->List Nat
 |.setR t _=>[t]|.call _ t _ _=>[t]|.callc _ t _ _=>[t]|_=>[]
def PI.modO:PI->List Nat
 |.setO j _=>[j]|.mcall j _ _=>[j]|_=>[]
def PC.modR:PC->List Nat
 |.skip=>[]|.is l=>l.flatMap PI.modR|.seq a b=>a.modR++b.modR|.ite _ lr _ a b=>lr++a.modR++b.modR
 |.block _ lr _ a=>lr++a.modR|.loop lr _ a=>lr++a.modR|.exit _=>[]|.ret _=>[]|.each ..=>[]|.meach ..=>[]
def PC.modO:PC->List Nat
 |.skip=>[]|.is l=>l.flatMap PI.modO|.seq a b=>a.modO++b.modO|.ite _ _ lo a b=>lo++a.modO++b.modO
 |.block _ _ lo a=>lo++a.modO|.loop _ lo a=>lo++a.modO|.exit _=>[]|.ret _=>[]|.each _ _ lo _ _=>lo|.meach _ _ _ lo _=>lo
structure Env.but (Z Z':Env) (mr mo:List Nat):Prop where
 r:∀t,t∉mr->Z'.r t=Z.r t
 o:∀t,t∉mo->Z'.o t=Z.o t
def Env.but.refl (Z:Env)(mr mo:List Nat):Z.but Z mr mo:=⟨λ_ _=>rfl,λ_ _=>rfl⟩
def Env.but.trans {a b c:Env}{mr mo:List Nat}(h:a.but b mr mo)(k:b.but c mr mo):a.but c mr mo:=
 ⟨λt ht=>(k.r t ht).trans (h.r t ht),λt ht=>(k.o t ht).trans (h.o t ht)⟩
def Env.but.mono {a b:Env}{mr mo mr' mo':List Nat}(h:a.but b mr mo)(h1:∀t,t∈mr->t∈mr')(h2:∀t,t∈mo->t∈mo'):a.but b mr' mo':=
 ⟨λt ht=>h.r t λhm=>ht (h1 t hm),λt ht=>h.o t λhm=>ht (h2 t hm)⟩
def Env.but.join (Z Z':Env)(lr lo:List Nat):Z.but (Z.join lr lo Z') lr lo:=
 ⟨λt ht=>by simp[Env.join,Env.put,vf,ht],λt ht=>by simp[Env.join,Env.put,vf,ht]⟩
def PI.run_but {V:bf}{x:PI}{Z Z':Env}(h:x.run V Z=some Z'):Z.but Z' x.modR x.modO:=by
 cases x with
 |setR t e=>simp only[PI.run,bx] at h;subst h;exact⟨λu hu=>by simp[PI.modR] at hu;simp[Env.setR,bU _ _ hu],λ_ _=>rfl⟩
 |setO t e=>simp only[PI.run,bx] at h;subst h;exact⟨λ_ _=>rfl,λu hu=>by simp[PI.modO] at hu;simp[Env.setO,bU _ _ hu]⟩
 |chk e=>
  cases hb:(e.ev Z).b<;>simp[PI.run,hb] at h;subst h;exact .refl _ _ _
 |call gs dst f args=>
  cases hb:holds gs Z<;>simp[PI.run,hb] at h
  .subst h;exact .refl _ _ _
  .obtain⟨d,_,rfl⟩:=h;exact⟨λu hu=>by simp[PI.modR] at hu;simp[Env.setR,bU _ _ hu],λ_ _=>rfl⟩
 |callc gs dst f args=>
  cases hb:holds gs Z<;>simp only[PI.run,hb,zyv,zyu] at h
  .cases h;exact .refl _ _ _
  .split at h
   case h_2=>cases h
   simp only[aT] at h;obtain⟨d,_,rfl⟩:=h;exact⟨λu hu=>by simp[PI.modR] at hu;simp[Env.setR,bU _ _ hu],λ_ _=>rfl⟩
 |mcall j f args=>
  simp[PI.run] at h;obtain⟨d,_,rfl⟩:=h;exact⟨λ_ _=>rfl,λu hu=>by simp[PI.modO] at hu;simp[Env.setO,bU _ _ hu]⟩
def PI.runs_but {V:bf}:∀{l:List PI} {Z Z':Env},PI.runs V l Z=some Z'->Z.but Z' (l.flatMap PI.modR) (l.flatMap PI.modO)
 |[],Z,Z',h=>by simp[PI.runs] at h;subst h;exact .refl _ _ _
 |x::xs,Z,Z',h=>by
  simp only[PI.runs,aJ] at h;obtain⟨ρ1,h1,h2⟩:=h;exact((PI.run_but h1).mono (by simp_all) (by simp_all)).trans ((PI.runs_but h2).mono (by simp_all) (by simp_all))
def Out.env?:Out->Option Env
 |.next Z=>some Z
 |.exit _ Z=>some Z
 |.ret _=>none
def axn {body:Env->Option Out}{mr mo:List Nat}{Z:Env}{lr lo:List Nat}
 (hb:∀Z x Z',body Z=some x->x.env?=some Z'->Z.but Z' mr mo) (h1:∀t,t∈lr->t∈mr) (h2:∀t,t∈lo->t∈mo):
 ∀(n:Nat) (ρ1:Env) (x:Out) (Z':Env),iY body Z lr lo n (lr.map ρ1.r) (lo.map ρ1.o)=some x->x.env?=some Z'->Z.but Z' mr mo:=by
 intro n
 induction n with
 |zero=>intro ρ1 x Z' h;simp[iY] at h
 |succ n ih=>
  intro ρ1 x Z' h he;have hj:Z.but (Z.put lr (lr.map ρ1.r) lo (lo.map ρ1.o)) mr mo:=(Env.but.join Z ρ1 lr lo).mono h1 h2;simp only[iY] at h;split at h
  .rename_i ρ2 h3;exact ih ρ2 x Z' h he
  .rename_i h3;exact hj.trans (hb _ x Z' h he)
def afA {body:Env->Option Out}{Z:Env}{ps lo:List Nat}{rt:Option PE}:∀{xs:List D} {ρ1 x Z'},jn body Z ps lo rt xs (lo.map (Env.o ρ1))=some x->x.env?=some Z'->Z.but Z' [] lo
 |[],ρ1,x,Z',h,he=>by
  simp only[jn,bx] at h;subst h;simp only[Out.env?,bx] at he;subst he;exact Env.but.join Z ρ1 [] lo
 |y::xs,ρ1,x,Z',h,he=>by
  simp only[jn] at h;split at h
  .exact afA h he
  .rename_i id ρ2 _;cases hb:Nat.beq id db<;>simp only[hb,zyv,zyu] at h
   .cases h;simp only[Out.env?,bx] at he;subst he;exact Env.but.join Z ρ2 [] lo
   .simp only[aT] at h;obtain⟨e,_,rfl⟩:=h;simp[Out.env?] at he
  .cases h
def XH (f:Nat->D):∀(l:List Nat) (vs:List D) (t:Nat),t∉l->putL f l vs t=f t
 |[],_,_,_=>rfl
 |_::_,[],_,_=>rfl
 |i::is,v::vs,t,h=>by
  simp only[putL];rw[bU _ _ (λe=>h (by rw[e];exact gy ..)),XH f is vs t λhm=>h (fY _ hm)]
def PC.ev_but {V:bf}{n:Nat}:∀(c:PC) (Z:Env) (x:Out) (Z':Env),c.ev V n Z=some x->x.env?=some Z'->Z.but Z' c.modR c.modO:=by
 intro c
 induction c with
 |skip=>intro Z x Z' h he;simp[PC.ev] at h;subst h;simp[Out.env?] at he;subst he;exact .refl _ _ _
 |is l=>
  intro Z x Z' h he;simp only[PC.ev,aT] at h;obtain⟨ρ1,h1,rfl⟩:=h;simp[Out.env?] at he;subst he;exact PI.runs_but h1
 |seq a b bS eW=>
  intro Z x Z' h he;simp only[PC.ev] at h;split at h
  .rename_i ρ1 h1;exact((bS Z _ ρ1 h1 rfl).mono (by simp_all [PC.modR]) (by simp_all [PC.modO])).trans ((eW ρ1 x Z' h he).mono (by simp_all [PC.modR]) (by simp_all [PC.modO]))
  .exact(bS Z x Z' h he).mono (by simp_all [PC.modR]) (by simp_all [PC.modO])
 |ite c lr lo a b bS eW=>
  intro Z x Z' h he;simp only[PC.ev] at h;split at h
  .rename_i ρ1 h1;simp at h;subst h;simp[Out.env?] at he;subst he;exact(Env.but.join Z ρ1 lr lo).mono (by simp_all [PC.modR]) (by simp_all [PC.modO])
  .cases hb:(c.ev Z).b<;>simp only[hb,zyv,zyu] at h
   .exact(eW Z x Z' h he).mono (by simp_all [PC.modR]) (by simp_all [PC.modO])
   .exact(bS Z x Z' h he).mono (by simp_all [PC.modR]) (by simp_all [PC.modO])
 |block id lr lo a bS=>
  intro Z x Z' h he;simp only[PC.ev] at h;split at h
  .rename_i ρ1 h1;simp at h;subst h;simp[Out.env?] at he;subst he;exact(Env.but.join Z ρ1 lr lo).mono (by simp_all [PC.modR]) (by simp_all [PC.modO])
  .rename_i cg ρ1 h1;cases hb:Nat.beq cg id<;>simp only[hb,zyv,zyu] at h<;>simp at h<;>subst h<;>simp[Out.env?] at he<;>subst he
   .exact(bS Z _ ρ1 h1 rfl).mono (by simp_all [PC.modR]) (by simp_all [PC.modO])
   .exact(Env.but.join Z ρ1 lr lo).mono (by simp_all [PC.modR]) (by simp_all [PC.modO])
  .exact(bS Z x Z' h he).mono (by simp_all [PC.modR]) (by simp_all [PC.modO])
 |loop lr lo a bS=>
  intro Z x Z' h he;simp only[PC.ev] at h;exact axn (λZ x Z' h he=>(bS Z x Z' h he).mono (by simp_all [PC.modR]) (by simp_all [PC.modO])) (by simp_all [PC.modR]) (by simp_all [PC.modO]) n Z x Z' h he
 |exit id=>intro Z x Z' h he;simp[PC.ev] at h;subst h;simp[Out.env?] at he;subst he;exact .refl _ _ _
 |ret e=>intro Z x Z' h he;simp[PC.ev] at h;subst h;simp[Out.env?] at he
 |each e ps lo rt a bS=>intro Z x Z' h he;simp only[PC.ev] at h;exact afA h he
 |meach J ps dz lo a bS=>
  intro Z x Z' h he;simp only[PC.ev,DS] at h;obtain⟨vo,_,rfl⟩:=h;simp only[Out.env?,bx] at he;subst he;exact⟨λ_ _=>rfl,λt ht=>XH _ _ _ _ ht⟩
inductive AgC where
 |dat (t:Ty)
 |obj (j ver:Nat)
 deriving Inhabited
inductive Sh where
 |none
 |dat (t:Ty)
 |obj (j ver:Nat)
 |ptr (j ver off:Nat)
 |eptr (j ver size off:Nat)
 |opt (gs:List (Nat×Bool)) (s:Sh)
 /--tI function Em aOQ Es is yielded-/
 |yv
 /--a closure of a function Em has captured boxes aHm R2 still alk own-/
 |fclo (f:Nat) (caps:List (Nat×Nat))
 /--a struct Em was read aa it axi:rows and maps in it R2 still alk own-/
 |agg (l:List AgC)
 deriving Inhabited
def AgC.sh:AgC->Sh
 |.dat t=>.dat t
 |.obj j ver=>.obj j ver
inductive Ob where
 |dead
 |fz (t:Ty)
 |fbox (t:Ty)
 |box (ag:Bool) (aP:List Sh)
 |row (T:TypeId) (e:Ty)
 |mp (kt et:Ty)
 /--an iterator over a map Em is alk own-/
 |it (kt et:Ty)
 /--Es has aeP yielded so far-/
 |tr
 deriving Inhabited
structure St where
 r:Nat->Sh
 o:Nat->Ob
 ver:Nat->Nat
def St.setR (S:St)(t:Nat)(s:Sh):St:={S with r:=cL S.r t s}
def St.setO (S:St)(j:Nat)(ob:Ob):St:={S with o:=cL S.o j ob}
def St.newO (S:St)(j:Nat)(ob:Ob):St:={S with o:=cL S.o j ob,ver:=cL S.ver j (S.ver j+1)}
inductive Mode where
 |dat
 |row (T:TypeId) (e:Ty)
 /--an iterator:Es it has yielded axi in this place-/
 |it (J:Nat)
 /--a function Em is handed tI aKQ own objects:tI aOm of its aNZ,tI objects-/
 |ob (aP:List Sh) (dQ:List (Nat×Ob))
 deriving Inhabited
structure Sig where
 args:List Ty
 res:Ty
 mode:Mode
 deriving Inhabited
structure Ctx where
 P:Program
 cap:Nat->Option CSig
 sig:Nat->Option Sig
 azt:Nat->Option (TypeId×Ty×List Ty)
 glob:Nat->Option (Ty×D)
 /--ane to aHm no slice or map is assigned but aa a datum-/
 fr:List Nat:=[]
 /--fields of boxes Em stay nil aOR aOr is aKF-/
 nh:List Nat:=[]
 /--an iterator:tI place of Es has aeP yielded,and tI types of Es it aHB;to aOX it aHB-/
 yl:Option (Nat×List Ty):=none
 yv:Value:=undef
def Ty.flat:Ty->List Ty
 |.agg ts=>ts
 |.trm=>[.int .i64,.int .i64,.slice .trm]
 |t=>[t]
def uW (P:Program)(e:TypeId):Bool:=
 match P.underlying e with
 |some (.struct fs)=>
  match fs.toList with
  |[f0,f1,f2]=>
   (match P.underlying f0.type with|some (.int .i64)=>true|_=>false)&&(match P.underlying f1.type with|some (.int .i64)=>true|_=>false)&&
   (match P.underlying f2.type with|some (.slice e')=>Nat.beq e' e|_=>false)&&
   Nat.beq f0.offset 0&&Nat.beq f1.offset 1&&Nat.beq f2.offset 2&&Nat.beq (P.cellsOf f0.type) 1&&Nat.beq (P.cellsOf f1.type) 1&&Nat.beq (P.cellsOf f2.type) 1&&Nat.beq (P.cellsOf e) 3
  |_=>false
 |_=>false
def rT (P:Program):Nat->TypeId->Option Ty
 |0,_=>Option.none
 |n+1,t=>
  match P.underlying t with
  |some .bool=>some .bool
  |some (.int k)=>some (.int k)
  |some .string=>some .str
  |some (.slice e)=>bif uW P e then some (.slice .trm) else(rT P n e).map .slice
  |some (.map k e)=>(rT P n k).bind λk=>(rT P n e).map (.map k)
  |some (.pointer e)=>(rT P n e).map .ref
  |some (.func ps rs false)=>
   (ps.toList.mapM (rT P n)).bind λps=>
    match rs.toList with
    |[]=>some (.fn ps (.tup []))
    |[r]=>(rT P n r).map (.fn ps)
    |rs=>(rs.mapM (rT P n)).map λrs=>.fn ps (.tup rs)
  |some (.struct fs)=>(fs.toList.mapM λf=>rT P n f.type).map λts=>.agg (ts.flatMap Ty.flat)
  |some (.array len e)=>(rT P n e).map λt=>.agg ((List.replicate len t.flat).flatten)
  |some (.tuple es)=>(es.toList.mapM (rT P n)).map .tup
  |_=>Option.none
def qy (P:Program)(t:TypeId):Option Ty:=rT P 12 t
mutual
def Ty.sub:Ty->Ty->Bool
 |.nils _,.slice _=>true
 |.nsl a,.slice b=>Ty.beq a b
 |.agg a,.agg b=>Ty.subs a b
 |.tup a,.tup b=>Ty.subs a b
 |a,b=>Ty.beq a b
def Ty.subs:List Ty->List Ty->Bool
 |[],[]=>true
 |a::aa,b::bs=>Ty.sub a b&&Ty.subs aa bs
 |_,_=>false
end
def Tw:Value->Option (Ty×D)
 |.int k n=>if k.min<=n/\n<=k.max then some (.int k,.v (.int k n)) else Option.none
 |.bool b=>some (.bool,.v (.bool b))
 |.string s=>if s.size<=maxLen then some (.str,.v (.string s)) else Option.none
 |.slice .none 0 0=>some (.nils .bool,.list [])
 |_=>Option.none
def rU:Ty->Option (Ty×D)
 |.int k=>some (.int k,.v (.int k 0))
 |.bool=>some (.bool,.v (.bool false))
 |.str=>some (.str,.v (.string ByteArray.empty))
 |.slice e=>some (.nils e,.list [])
 |.map k e=>some (.map k e,.map [])
 |.fn aa r=>some (.fn aa r,.v .nilFunc)
 |_=>Option.none
def qz:Ty->Option (Ty×D)
 |.agg ts=>(ts.mapM rU).map λzs=>(.agg (zs.map (·.1)),.agg (zs.map (·.2)))
 |t=>rU t
def A0:Ty->Value->Bool
 |.int k,.int k' n=>k==k'&&n==0
 |.bool,.bool b=> !b
 |.str,.string s=>s.size==0
 |.slice _,.slice .none 0 0=>true
 |.map ..,.map .none=>true
 |.fn ..,.nilFunc=>true
 |_,_=>false
def Eu:List Ty->List Value->Bool
 |[],[]=>true
 |t::ts,v::vs=>A0 t v&&Eu ts vs
 |_,_=>false
def j2:Ty->Value->Bool
 |.agg ts,.agg vs=>Eu ts vs.toList
 |.agg _,_=>false
 |t,v=>A0 t v
def QK (a b:List (Nat×Bool)):Bool:=a.all λg=>b.any λh=>Nat.beq g.1 h.1&&(g.2==h.2)
def rN (S:St)(gs:List (Nat×Bool))(t:Nat):Sh:=
 match S.r t with
 |.opt bY s=>bif QK bY gs then s else .none
 |s=>s
def y5 (S:St)(b:PE):List Sh->Nat->Option (List Ty×List PE)
 |[],_=>some ([],[])
 |s::r,i=>
  (y5 S b r (i+1)).bind λx=>
   match s with
   |.dat t=>bif t.one then some (t::x.1,.cell b i::x.2) else Option.none
   |.obj j' ver=>
    bif Nat.beq ver (S.ver j') then
      match S.o j' with
      |.fz t=>some (t::x.1,.o j'::x.2)
      |_=>Option.none
    else Option.none
   |_=>Option.none
def use (C:Ctx)(S:St)(gs:List (Nat×Bool)):Operand->Option (Ty×PE)
 |.tmp t=>
  match rN S gs t with
  |.dat ty=>some (ty,.r t)
  |.obj j ver=>
   bif Nat.beq ver (S.ver j) then
        match S.o j with
        |.fz ty=>some (ty,.o j)
        |_=>Option.none
   else Option.none
  |.ptr j ver off=>
   bif Nat.beq ver (S.ver j)&&Nat.beq off 0 then
        match S.o j with
        |.fbox ty=>some (.ref ty,.ref (.o j))
        |_=>Option.none
   else Option.none
  |.agg l=>(y5 S (.r t) (l.map AgC.sh) 0).map λx=>(.agg x.1,.mk x.2)
  |_=>Option.none
 |.const v=>(Tw v).map λx=>(x.1,.con x.2)
 |.func f=>match C.cap f with
  |some ⟨[],aa,r⟩=>some (.fn aa r,.con (.clo f []))
  |_=>Option.none
 |.global g=>(C.glob g).map λx=>(.ref x.1,.con (.ref x.2))
def view (C:Ctx)(S:St)(gs:List (Nat×Bool))(x:Operand):Option (Ty×PE):=
 match use C S gs x with
 |some r=>some r
 |Option.none=>
  match x with
  |.tmp t=>
   match rN S gs t with
   |.obj j ver=>
    bif Nat.beq ver (S.ver j) then
          match S.o j with
          |.row _ e=>some (.slice e.rol,.o j)
          |.mp k e=>some (.map k e,.o j)
          |_=>Option.none
    else Option.none
   |_=>Option.none
  |_=>Option.none
abbrev jG:=Option (Sh×List PI)
def Ka:BinOp->Bool
 |.add|.sub|.mul|.quo|.rem|.and|.or|.xor|.andNot=>true
 |_=>false
def CD:BinOp->Bool
 |.eql|.neq|.lss|.leq|.gtr|.geq=>true
 |_=>false
def sl (gs:List (Nat×Bool))(e:PE):PI:=.chk (match gs with|[]=>e|_=>.imp gs e)
def oW:Int:=4294967296
def Aj:Nat:=32768
def VR (n:PE):PE:=.an (.ci .geq n (.con (.int 0))) (.ci .leq n (.con (.int oW)))
def vN (inf:TypeInfo)(t:Ty):Bool:=
 match inf.zero with
 |some v=>j2 t v
 |Option.none=>false
def sq (P:Program)(T:TypeId)(e:Ty):Bool:=
 match P.info? T with
 |some i=>Nat.beq i.size e.size&&Nat.ble i.bytes Aj&&Nat.ble 1 e.size&&vN i e
 |Option.none=>false
def tE (P:Program)(T:TypeId)(e:Ty):Bool:=
 match P.info? T with
 |some i=>Nat.beq i.size e.size
 |Option.none=>false
def rj (P:Program)(T:TypeId):Option Bool:=
 match P.underlying T with
 |some (.struct _)=>some true
 |some (.array ..)=>some true
 |some _=>some false
 |Option.none=>Option.none
def VL (P:Program)(T:TypeId):Bool:=
 match P.underlying T with
 |some .bool=>true
 |_=>false
def lb (S:St)(gs:List (Nat×Bool)):Operand->Sh
 |.tmp t=>rN S gs t
 |_=>.none
def yb:Operand->PE
 |.tmp t=>.r t
 |_=>.con .none
def adN (C:Ctx)(S:St)(gs:List (Nat×Bool)):Option Operand->Option (Ty×PE)
 |Option.none=>some (Ty.int .i64,PE.con (.int 0))
 |some l=>use C S gs l
def adM (C:Ctx)(S:St)(gs:List (Nat×Bool))(e:PE):Option Operand->Option (Ty×PE)
 |Option.none=>some (Ty.int .i64,PE.llen e)
 |some l=>use C S gs l
def Au (C:Ctx)(S:St)(gs:List (Nat×Bool))(dst:Nat)(x:Operand):jG:=
 match use C S gs x with
 |some a=>some (.dat a.1,[.setR dst a.2])
 |Option.none=>
  match x with
  |.tmp t=>
   match rN S gs t with
   |.none=>Option.none
   |.opt ..=>Option.none
   |s=>some (s,[.setR dst (.r t)])
  |_=>Option.none
def Xt (C:Ctx)(S:St)(gs:List (Nat×Bool))(dst:Nat)(c x y:Operand):jG:=
 match c with
 |.tmp t=>
  match rN S gs t with
  |.dat .bool=>
   (use C S ((t,true)::gs) x).bind λa=>(use C S ((t,false)::gs) y).bind λb=>
     bif Ty.beq a.1 b.1 then some (.dat a.1,[.setR dst (.pick (.r t) a.2 b.2)]) else Option.none
  |_=>Option.none
 |_=>Option.none
def rk (P:Program)(K:TypeId):Ty->Bool
 |.int _=>match P.underlying K with|some (.int _)=>true|_=>false
 |.str=>match P.underlying K with|some .string=>true|_=>false
 |.bool=>match P.underlying K with|some .bool=>true|_=>false
 |_=>false
def Dv (P:Program)(K:TypeId):Ty->Bool
 |.agg [.int _,.int _]=>
  match P.underlying K with
  |some (.array n e)=>Nat.beq n 2&&(match P.underlying e with|some (.int _)=>true|_=>false)&&P.plainKey e&&(match P.info? e with|some _=>Nat.beq (P.cellsOf e) 1|none=>false)
  |_=>false
 |_=>false
def xt (P:Program)(K:TypeId)(t:Ty):Bool:=rk P K t||Dv P K t
def F2:Ty->PE->PE->Option PE
 |.int _,x,y=>some (.ci .eql x y)
 |.bool,x,y=>some (.cb .eql x y)
 |.str,x,y=>some (.cs .eql x y)
 |_,_,_=>Option.none
def zh (P:Program)(x y:PE):List Field->Nat->List Ty->Option PE
 |[],_,[]=>some (.con (.v (.bool true)))
 |f::fs,i,t::ts=>
  bif (f.name != "_")&&Nat.beq f.offset i&&rk P f.type t&&P.plainKey f.type then
   (F2 t (.cell x i) (.cell y i)).bind λe=>(zh P x y fs (i+1) ts).map λr=>.an e r
  else Option.none
 |_,_,_=>Option.none
def TN (P:Program)(T:TypeId):Bool:=(match P.underlying T with|some (.struct _)=>true|_=>false)&& !P.stoodInHeld T&& !P.eqGuardType P.depth T
def Xh (C:Ctx)(S:St)(gs:List (Nat×Bool))(dst:Nat)(op:BinOp)(T:TypeId)(x y:Operand):jG:=
 (use C S gs x).bind λa=>(use C S gs y).bind λb=>
    match a.1,b.1 with
    |.int k,.int k'=>
     bif op==.shl||op==.shr then some (.dat (.int k),[sl gs (.ci .geq b.2 (.con (.int 0))),.setR dst (.ai op k a.2 b.2)])
     else bif k==k' then
      bif op==.quo||op==.rem then some (.dat (.int k),[sl gs (.ci .neq b.2 (.con (.int 0))),.setR dst (.ai op k a.2 b.2)])
      else bif Ka op then some (.dat (.int k),[.setR dst (.ai op k a.2 b.2)])
      else bif CD op then some (.dat .bool,[.setR dst (.ci op a.2 b.2)])
      else Option.none
     else Option.none
    |.bool,.bool=>bif (op==.eql||op==.neq)&&VL C.P T then some (.dat .bool,[.setR dst (.cb op a.2 b.2)]) else Option.none
    |.str,.str=>bif CD op then some (.dat .bool,[.setR dst (.cs op a.2 b.2)]) else Option.none
    |.nsl _,.nils _=>(match C.P.underlying T with|some (.slice _)=>bif op==.eql||op==.neq then some (.dat .bool,[.setR dst (.ci op (.llen a.2) (.con (.int 0)))]) else Option.none|_=>Option.none)
    |.agg ts,.agg us=>bif (op==.eql||op==.neq)&&Ty.beqs ts us&&TN C.P T then(zh C.P a.2 b.2 (C.P.fieldsOf T).toList 0 ts).map λe=>(.dat .bool,[.setR dst (bif op==.eql then e else .nt e)]) else Option.none
    |_,_=>Option.none
def Xv (C:Ctx)(S:St)(gs:List (Nat×Bool))(dst:Nat)(op:UnOp)(x:Operand):jG:=
 (use C S gs x).bind λa=>
    match op,a.1 with
    |.neg,.int k=>some (.dat (.int k),[.setR dst (.ai .sub k (.con (.v (.int k 0))) a.2)])
    |.not,.bool=>some (.dat .bool,[.setR dst (.nt a.2)])
    |_,_=>Option.none
def Xj (C:Ctx)(S:St)(gs:List (Nat×Bool))(dst:Nat)(s d:TypeId)(x:Operand):jG:=
 (use C S gs x).bind λa=>
    match C.P.underlying s,C.P.underlying d,a.1 with
    |some (.int _),some (.int k),.int _=>some (.dat (.int k),[.setR dst (.conv k a.2)])
    |some .string,some .string,.str=>some (.dat .str,[.setR dst a.2])
    |_,_,_=>Option.none
def Xq (C:Ctx)(S:St)(gs:List (Nat×Bool))(dst:Nat)(T:TypeId)(x:Operand):jG:=
 (view C S gs x).bind λa=>
    match a.1,C.P.underlying T with
    |.slice _,some (.slice _)=>some (.dat (.int .i64),[.setR dst (.llen a.2)])
    |.nils _,some (.slice _)=>some (.dat (.int .i64),[.setR dst (.llen a.2)])
    |.str,some .string=>some (.dat (.int .i64),[.setR dst (.slen a.2)])
    |.map ..,some (.map ..)=>some (.dat (.int .i64),[.setR dst (.mlen a.2)])
    |_,_=>Option.none
def OX (C:Ctx)(S:St)(gs:List (Nat×Bool))(dst:Nat)(mx:Bool)(x y:Operand):jG:=
 (use C S gs x).bind λa=>(use C S gs y).bind λb=>
    match a.1,b.1 with
    |.int k,.int k'=>bif k==k' then some (.dat (.int k),[.setR dst (bif mx then .mx a.2 b.2 else .mn a.2 b.2)]) else Option.none
    |_,_=>Option.none
def xH (ag:Bool)(n:Nat)(ts:List Ty)(off:Nat):Option Ty:=
 bif Nat.ble (off+n) ts.length then
    bif ag then some (.agg ((ts.drop off).take n))
    else bif Nat.beq n 1 then ts[off]? else Option.none
 else Option.none
def DQ (ag:Bool)(n:Nat)(e:PE)(off:Nat):PE:=bif ag then .sub e off n else .cell e off
def afh:List Sh->Option (List Ty)
 |[]=>some []
 |.dat t::r=>(afh r).map (t::·)
 |_=>Option.none
def agB (C:Ctx)(j:Nat):Bool:=C.fr.any (Nat.beq (1000000+j))
def J8 (S:St):List Sh->Option (List AgC)
 |[]=>some []
 |s::r=>
  (J8 S r).bind λx=>
   match s with
   |.dat t=>bif t.one then some (.dat t::x) else Option.none
   |.obj j ver=>bif Nat.beq ver (S.ver j) then some (.obj j ver::x) else Option.none
   |_=>Option.none
def ug (b:PE):List AgC->Nat->List PE
 |[],_=>[]
 |.dat _::r,i=>.cell b i::ug b r (i+1)
 |.obj ..::r,i=>.con (.bool false)::ug b r (i+1)
def HE (C:Ctx)(S:St)(gs:List (Nat×Bool))(dst:Nat)(T:TypeId)(x:Operand):jG:=
 match C.P.info? T,rj C.P T with
 |some inf,some ag=>
  match lb S gs x with
  |.ptr j ver off=>
   bif Nat.beq ver (S.ver j) then
    match S.o j with
    |.box _ aP=>
     bif ag then
          bif Nat.ble (off+inf.size) aP.length then
           (y5 S (.o j) ((aP.drop off).take inf.size) off).map λx=>(.dat (.agg x.1),[.setR dst (.mk x.2)])
          else Option.none
     else
          match aP[off]? with
          |some (.dat ty)=>bif ty.one then some (.dat ty,[.setR dst (.cell (.o j) off)]) else Option.none
          |some (.obj j' tL)=>some (.obj j' tL,[.setR dst (.con .none)])
          |_=>Option.none
    |.fbox (.agg ts)=>(xH ag inf.size ts off).map λty=>(.dat ty,[.setR dst (DQ ag inf.size (.o j) off)])
    |.fbox ty=>bif !ag&&ty.one&&Nat.beq off 0 then some (.dat ty,[.setR dst (.o j)]) else Option.none
    |_=>Option.none
   else Option.none
  |.eptr j ver size off=>
   bif Nat.beq ver (S.ver j) then
    match S.o j with
    |.row _ (.agg ts)=>
     bif Nat.beq size ts.length then(xH ag inf.size ts off).map λty=>(.dat ty,[.setR dst (DQ ag inf.size (.nth (.o j) (yb x)) off)])
     else Option.none
    |.row _ e=>bif !ag&&e.one&&Nat.beq off 0&&Nat.beq size 1 then some (.dat e,[.setR dst (.nth (.o j) (yb x))]) else Option.none
    |_=>Option.none
   else Option.none
  |_=>
   (use C S gs x).bind λa=>
    match a.1 with
    |.ref ty=>bif Nat.beq inf.size ty.size&&(ag==ty.rowT) then some (.dat ty,[.setR dst (.deref a.2)]) else Option.none
    |_=>Option.none
 |_,_=>Option.none
def F6 (P:Program)(T:TypeId)(i:Nat):Option Field:=
 match P.underlying T with
 |some (.struct fs)=>fs[i]?
 |_=>Option.none
def Xm (C:Ctx)(S:St)(gs:List (Nat×Bool))(dst:Nat)(T:TypeId)(x:Operand)(i:Nat):jG:=
 (F6 C.P T i).bind λf=>
    match C.P.info? f.type,rj C.P f.type with
    |some inf,some ag=>
     bif Nat.beq inf.size 0 then Option.none else
     match lb S gs x with
     |.eptr j ver size off=>bif Nat.beq ver (S.ver j) then some (.eptr j ver size (off+f.offset),[.setR dst (yb x)]) else Option.none
     |s=>
      match use C S gs x with
      |some (.ref (.agg ts),e)=>(xH ag inf.size ts f.offset).map λty=>(.dat (.ref ty),[.setR dst (.ref (DQ ag inf.size (.deref e) f.offset))])
      |_=>
       match s with
       |.ptr j ver off=>bif Nat.beq ver (S.ver j) then some (.ptr j ver (off+f.offset),[.setR dst (.con .none)]) else Option.none
       |_=>Option.none
    |_,_=>Option.none
def Xl (C:Ctx)(S:St)(gs:List (Nat×Bool))(dst:Nat)(T:TypeId)(x:Operand)(i:Nat):jG:=
 (F6 C.P T i).bind λf=>
    match C.P.info? f.type,rj C.P f.type with
    |some inf,some ag=>
     match use C S gs x with
     |some (.agg ts,e)=>(xH ag inf.size ts f.offset).map λty=>(.dat ty,[.setR dst (DQ ag inf.size e f.offset)])
     |_=>Option.none
    |_,_=>Option.none
def Xp (C:Ctx)(S:St)(gs:List (Nat×Bool))(dst:Nat)(T:TypeId)(x i:Operand):jG:=
 match C.P.underlying T with
 |some (.slice e)=>
  (use C S gs i).bind λn=>
    match n.1 with
    |.int _=>
     match use C S gs x with
     |some (.slice t,pe)=>bif tE C.P e t then some (.dat (.ref t.unf),[sl gs (.idx pe n.2),.setR dst (.ref (.nth pe n.2))]) else Option.none
     |some _=>Option.none
     |Option.none=>
      match lb S gs x with
      |.obj j ver=>
       bif Nat.beq ver (S.ver j) then
        match S.o j with
        |.row _ t=>bif tE C.P e t then some (.eptr j ver t.size 0,[sl gs (.idx (.o j) n.2),.setR dst n.2]) else Option.none
        |_=>Option.none
       else Option.none
      |_=>Option.none
    |_=>Option.none
 |_=>Option.none
def Xo (C:Ctx)(S:St)(gs:List (Nat×Bool))(dst:Nat)(T:TypeId)(x i:Operand):jG:=
 match C.P.underlying T with
 |some .string=>
  (use C S gs i).bind λn=>(use C S gs x).bind λa=>
    match n.1,a.1 with
    |.int _,.str=>some (.dat (.int .u8),[sl gs (.sok a.2 n.2),.setR dst (.sidx a.2 n.2)])
    |_,_=>Option.none
 |_=>Option.none
def Xk (C:Ctx)(S:St)(gs:List (Nat×Bool))(dst:Nat)(x:Operand)(i:Nat):jG:=
 (use C S gs x).bind λa=>
    match a.1 with
    |.tup ts=>(ts[i]?).map λt=>(.dat t,[.setR dst (.tget a.2 i)])
    |_=>Option.none
def Xr (C:Ctx)(S:St)(gs:List (Nat×Bool))(dst:Nat)(T:TypeId)(m k:Operand)(ok:Bool):jG:=
 match C.P.underlying T with
 |some (.map K E)=>
  (view C S gs m).bind λa=>(use C S gs k).bind λb=>
    match a.1 with
    |.map kt et=>
     match qz et,C.P.info? E with
     |some z,some inf=>
      bif Ty.beq b.1 kt&&xt C.P K kt&&Ty.sub z.1 et&&vN inf et then
          bif ok then some (.dat (.tup [et,.bool]),[.setR dst (.tup [.look a.2 b.2 (.con z.2),.has a.2 b.2])])
          else some (.dat et,[.setR dst (.look a.2 b.2 (.con z.2))])
      else Option.none
     |_,_=>Option.none
    |_=>Option.none
 |_=>Option.none
def Xu (C:Ctx)(S:St)(gs:List (Nat×Bool))(dst:Nat)(T:TypeId)(x:Operand)(lo hi mx:Option Operand):jG:=
 match C.P.underlying T,mx with
 |some (.slice e),Option.none=>
  (use C S gs x).bind λa=>
    match a.1 with
    |.slice t=>
     (adN C S gs lo).bind λl=>
     (adM C S gs a.2 hi).bind λh=>
        match l.1,h.1 with
        |.int _,.int _=>bif tE C.P e t then some (.dat (.slice t),[sl gs (.slok a.2 l.2 h.2),.setR dst (.slc a.2 l.2 h.2)]) else Option.none
        |_,_=>Option.none
    |_=>Option.none
 |some (.array n e),Option.none=>
  match lo,hi with
  |Option.none,Option.none=>
   (use C S gs x).bind λa=>
     match a.1 with
     |.ref (.agg (t::ts))=>bif Nat.beq n (ts.length+1)&&ts.all (Ty.beq t)&&t.one&&tE C.P e t&&Nat.ble n maxLen then some (.dat (.slice t),[.setR dst (.lst ((List.range n).map λi=>.cell (.deref a.2) i))]) else Option.none
     |_=>Option.none
  |_,_=>Option.none
 |_,_=>Option.none
def tK (C:Ctx)(S:St)(gs:List (Nat×Bool)):List Operand->Option (List Ty×List PE)
 |[]=>some ([],[])
 |x::xs=>(use C S gs x).bind λa=>(tK C S gs xs).map λr=>(a.1::r.1,a.2::r.2)
def Xn (C:Ctx)(S:St)(gs:List (Nat×Bool))(dst:Nat)(fn:Fn)(first caps:Array Operand):jG:=
 match fn,first.toList with
 |.func f,[]=>
  (C.cap f).bind λcs=>(tK C S gs caps.toList).bind λa=>bif Ty.subs a.1 cs.caps then some (.dat (.fn cs.args cs.res),[.setR dst (.clo f a.2)]) else Option.none
 |_,_=>Option.none
def rowOf (ag:Bool)(cs:List Value):Value:=if ag then .agg cs.toArray else cs.getD 0 undef
def nS (C:Ctx)(S:St)(gs:List (Nat×Bool))(zs:List Value)(parts:List (Nat×Operand)):List Field->Nat->Nat->Option (List Ty×List PE)
 |[],_,off=>bif Nat.beq off zs.length then some ([],[]) else Option.none
 |f::fs,i,off=>
  match C.P.info? f.type,qy C.P f.type with
  |some inf,some ft=>
   bif Nat.beq f.offset off&&Nat.beq inf.size ft.size then
    (nS C S gs zs parts fs (i+1) (off+inf.size)).bind λr=>
       match parts.find? λp=>Nat.beq p.1 i with
       |some p=>(use C S gs p.2).bind λa=>bif Ty.sub a.1 ft&&(a.1.rowT||a.1.one) then some (a.1.flat++r.1,a.2::r.2) else Option.none
       |Option.none=>bif j2 ft (rowOf ft.rowT ((zs.drop off).take inf.size)) then(qz ft).map λz=>(z.1.flat++r.1,.con z.2::r.2) else Option.none
   else Option.none
  |_,_=>Option.none
def nm:List Nat->Bool
 |[]=>true
 |a::r=> !(r.any (Nat.beq a))&&nm r
def Xi (C:Ctx)(S:St)(gs:List (Nat×Bool))(dst:Nat)(T:TypeId)(parts:List (Nat×Operand)):jG:=
 match C.P.underlying T,C.P.info? T with
 |some (.struct fs),some inf=>
  match inf.zero with
  |some (.agg zs)=>
   bif nm (parts.map (·.1))&&parts.all (λp=>Nat.blt p.1 fs.size) then
    (nS C S gs zs.toList parts fs.toList 0 0).map λr=>(.dat (.agg r.1),[.setR dst (.mk r.2)])
   else Option.none
  |_=>Option.none
 |some (.array n e),some inf=>
  match inf.zero,C.P.info? e with
  |some (.agg zs),some ie=>
   match parts with
   |[(0,x),(1,y)]=>
    (use C S gs x).bind λa=>(use C S gs y).bind λb=>
      match a.1,b.1 with
      |.int _,.int _=>bif Nat.beq n 2&&Nat.beq zs.size 2&&Nat.beq ie.size 1 then some (.dat (.agg [a.1,b.1]),[.setR dst (.mk [a.2,b.2])]) else Option.none
      |_,_=>Option.none
   |_=>Option.none
  |_,_=>Option.none
 |_,_=>Option.none
def Xs (C:Ctx)(S:St)(gs:List (Nat×Bool))(dst:Nat)(x:Operand):jG:=
 match use C S gs x with
 |some (.ref t,e)=>some (.dat (.ref t),[.setR dst e])
 |_=>
  match x with
  |.tmp t=>
   match rN S gs t with
   |.ptr j ver off=>bif Nat.beq ver (S.ver j) then some (.ptr j ver off,[.setR dst (.con .none)]) else Option.none
   |.eptr j ver sz off=>bif Nat.beq ver (S.ver j) then some (.eptr j ver sz off,[.setR dst (.r t)]) else Option.none
   |_=>Option.none
  |_=>Option.none
def OY (C:Ctx)(S:St)(gs:List (Nat×Bool))(dst:Nat):Op->jG
 |.move x=>Au C S gs dst x
 |.pick c x y=>Xt C S gs dst c x y
 |.binOp op T x y _=>Xh C S gs dst op T x y
 |.unOp op _ x=>Xv C S gs dst op x
 |.convert s d x=>Xj C S gs dst s d x
 |.load T x=>HE C S gs dst T x
 |.fieldAddr T x i=>Xm C S gs dst T x i
 |.field T x i=>Xl C S gs dst T x i
 |.indexAddr T x i=>Xp C S gs dst T x i
 |.index T x i=>Xo C S gs dst T x i
 |.extract x i=>Xk C S gs dst x i
 |.lookup T m k ok=>Xr C S gs dst T m k ok
 |.slice T x lo hi mx=>Xu C S gs dst T x lo hi mx
 |.makeFunc f a b=>Xn C S gs dst f a b
 |.build T ps=>Xi C S gs dst T ps.toList
 |.nilCheck x=>Xs C S gs dst x
 |.makeInterface _ _=>some (.dat .bool,[sl gs (.nt (.con (.bool true))),.setR dst (.con .none)])
 |.call c=>
  match c.callee,c.args.toList,c.argTypes.toList with
  |.builtin .len,[x],[T]=>Xq C S gs dst T x
  |.builtin .min,[x,y],_=>OX C S gs dst false x y
  |.builtin .max,[x,y],_=>OX C S gs dst true x y
  |_,_,_=>Option.none
 |_=>Option.none
def y4:List (Nat×Nat)->List (Nat×Nat)->Bool
 |[],[]=>true
 |x::a,y::b=>Nat.beq x.1 y.1&&Nat.beq x.2 y.2&&y4 a b
 |_,_=>false
def Tl:∀a b,y4 a b=true->a=b
 |[],[],_=>rfl
 |[],_::_,h=>by simp[y4] at h
 |_::_,[],h=>by simp[y4] at h
 |(x,u)::a,(y,v)::b,h=>by
  simp only[y4,aA] at h;rw[aK h.1.1,aK h.1.2,Tl a b h.2]
def qH:List AgC->List AgC->Bool
 |[],[]=>true
 |.dat t::a,.dat u::b=>Ty.beq t u&&qH a b
 |.obj j v::a,.obj k u::b=>Nat.beq j k&&Nat.beq v u&&qH a b
 |_,_=>false
def RY:∀a b,qH a b=true->a=b
 |[],[],_=>rfl
 |.dat t::a,.dat u::b,h=>by
  simp only[qH,aA] at h;rw[Ty.beq_eq _ _ h.1,RY a b h.2]
 |.obj j v::a,.obj k u::b,h=>by
  simp only[qH,aA] at h;rw[aK h.1.1,aK h.1.2,RY a b h.2]
 |[],_::_,h=>by simp[qH] at h
 |.dat _::_,[],h=>by simp[qH] at h
 |.obj ..::_,[],h=>by simp[qH] at h
 |.dat _::_,.obj ..::_,h=>by simp[qH] at h
 |.obj ..::_,.dat _::_,h=>by simp[qH] at h
def uC:List (Nat×Bool)->List (Nat×Bool)->Bool
 |[],[]=>true
 |(a,x)::aa,(b,y)::bs=>Nat.beq a b&&(x==y)&&uC aa bs
 |_,_=>false
def Sh.beq:Sh->Sh->Bool
 |.none,.none=>true
 |.dat a,.dat b=>Ty.beq a b
 |.obj j v,.obj k u=>Nat.beq j k&&Nat.beq v u
 |.ptr j v o,.ptr k u p=>Nat.beq j k&&Nat.beq v u&&Nat.beq o p
 |.eptr j v s o,.eptr k u t p=>Nat.beq j k&&Nat.beq v u&&Nat.beq s t&&Nat.beq o p
 |.opt gs s,.opt hs t=>uC gs hs&&Sh.beq s t
 |.yv,.yv=>true
 |.fclo f a,.fclo g b=>Nat.beq f g&&y4 a b
 |.agg a,.agg b=>qH a b
 |_,_=>false
def AT:List Sh->List Sh->Bool
 |[],[]=>true
 |a::aa,b::bs=>Sh.beq a b&&AT aa bs
 |_,_=>false
def Ob.beq:Ob->Ob->Bool
 |.dead,.dead=>true
 |.fz a,.fz b=>Ty.beq a b
 |.fbox a,.fbox b=>Ty.beq a b
 |.box x a,.box y b=>(x==y)&&AT a b
 |.row T a,.row U b=>Nat.beq T U&&Ty.beq a b
 |.mp a b,.mp c d=>Ty.beq a c&&Ty.beq b d
 |.it a b,.it c d=>Ty.beq a c&&Ty.beq b d
 |.tr,.tr=>true
 |_,_=>false
def DL:List Ob->List Ob->Bool
 |[],[]=>true
 |a::aa,b::bs=>Ob.beq a b&&DL aa bs
 |_,_=>false
def Gc:∀a b,uC a b=true->a=b
 |[],[],_=>rfl
 |(a,x)::aa,(b,y)::bs,h=>by
  simp only[uC,aA,beq_iff_eq] at h;rw[aK h.1.1,h.1.2,Gc aa bs h.2]
 |[],_::_,h=>by simp[uC] at h
 |(_,_)::_,[],h=>by simp[uC] at h
def Sh.beq_eq:∀a b:Sh,Sh.beq a b=true->a=b:=by
 intro a
 induction a with
 |opt gs s ih=>
  intro b h;cases b<;>simp only[Sh.beq,aA] at h<;>try (cases h;done)
  rw[Gc _ _ h.1,ih _ h.2]
 |none=>intro b h;cases b<;>simp[Sh.beq] at h;rfl
 |yv=>intro b h;cases b<;>simp[Sh.beq] at h;rfl
 |fclo f a=>
  intro b h;cases b<;>simp only[Sh.beq,aA] at h<;>try (cases h;done)
  rw[aK h.1,Tl _ _ h.2]
 |dat t=>intro b h;cases b<;>simp only[Sh.beq] at h<;>try (cases h;done)
         rw[Ty.beq_eq _ _ h]
 |agg l=>intro b h;cases b<;>simp only[Sh.beq] at h<;>try (cases h;done)
         rw[RY _ _ h]
 |obj j v=>
  intro b h;cases b<;>simp only[Sh.beq,aA] at h<;>try (cases h;done)
  rw[aK h.1,aK h.2]
 |ptr j v o=>
  intro b h;cases b<;>simp only[Sh.beq,aA] at h<;>try (cases h;done)
  rw[aK h.1.1,aK h.1.2,aK h.2]
 |eptr j v o=>
  intro b h;cases b<;>simp only[Sh.beq,aA] at h<;>try (cases h;done)
  rw[aK h.1.1.1,aK h.1.1.2,aK h.1.2,aK h.2]
def ZZ:∀a b:List Sh,AT a b=true->a=b
 |[],[],_=>rfl
 |a::aa,b::bs,h=>by
  simp only[AT,aA] at h;rw[Sh.beq_eq _ _ h.1,ZZ aa bs h.2]
 |[],_::_,h=>by simp[AT] at h
 |_::_,[],h=>by simp[AT] at h
def Ob.beq_eq:∀a b:Ob,Ob.beq a b=true->a=b:=by
 intro a b h;cases a<;>cases b<;>simp only[Ob.beq,aA,beq_iff_eq] at h<;>try (cases h;done)
 .rfl
 .rw[Ty.beq_eq _ _ h]
 .rw[Ty.beq_eq _ _ h]
 .rw[h.1,ZZ _ _ h.2]
 .rw[aK h.1,Ty.beq_eq _ _ h.2]
 .rw[Ty.beq_eq _ _ h.1,Ty.beq_eq _ _ h.2]
 .rw[Ty.beq_eq _ _ h.1,Ty.beq_eq _ _ h.2]
 .rfl
def aiY:∀a b:List Ob,DL a b=true->a=b
 |[],[],_=>rfl
 |a::aa,b::bs,h=>by
  simp only[DL,aA] at h;rw[Ob.beq_eq _ _ h.1,aiY aa bs h.2]
 |[],_::_,h=>by simp[DL] at h
 |_::_,[],h=>by simp[DL] at h
def isNone:Sh->Bool
 |.none=>true
 |_=>false
def sR:Ob->Bool
 |.dead=>true
 |_=>false
end Cx
namespace Cx
open Go Go.RowKit
section
variable (C:Ctx) (S:St) (Z:Env) (H:Im) (own:Nat->Option Nat) (hv:Nat->Value)
def Ev:AgC->Value->D->Prop
 |.dat t,v,d=>t.one=true/\Rep C.cap H t v d
 |.obj j ver,v,_=>ver<=S.ver j/\(ver=S.ver j->v=hv j)
def ba:Sh->Value->D->Prop
 |.none,_,_=>True
 |.dat t,v,d=>Rep C.cap H t v d
 |.obj j ver,v,_=>ver<=S.ver j/\(ver=S.ver j->v=hv j)
 |.ptr j ver off,v,_=>ver<=S.ver j/\(ver=S.ver j->∃k,hv j=.pointer (some ⟨k,0,none⟩)/\v=.pointer (some ⟨k,off,none⟩))
 |.eptr j ver size off,v,d=>ver<=S.ver j/\(ver=S.ver j->∃(k n c:Nat) (ik:IntKind) (i:Nat),hv j=.slice (some ⟨k,0,none⟩) n c/\d=.v (.int ik i)/\i<n/\v=.pointer (some ⟨k,i*size+off,none⟩))
 |.yv,v,_=>v=C.yv
 |.fclo f caps,v,_=>∃vs:List Value,v=.func (.func f) #[] vs.toArray/\vs.length=caps.length/\∀(i j ver:Nat),caps[i]?=some (j,ver)->ver<=S.ver j/\(ver=S.ver j->vs.getD i undef=hv j)
 |.agg l,v,d=>∃(vs:List Value) (ds:List D),v=.agg vs.toArray/\d=.agg ds/\vs.length=l.length/\ds.length=l.length/\∀(i:Nat) (c:AgC),l[i]?=some c->Ev C S H hv c (vs.getD i undef) (ds.getD i .none)
 |.opt gs s,v,d=>(holds gs Z=true->ba s v d)/\(holds gs Z=false->v=undef)
def j4 (cap:Nat->Option CSig)(H:Im)(e:Ty)(cells:List Value)(xs:List D):Prop:=
 ∃vs:Nat->Value,(∀i x,xs[i]?=some x->Rep cap H e (vs i) x)/\∀i j u,i<xs.length->(vs i).cells[j]?=some u->cells[i*e.size+j]?=some u
def nI (arr:Array MapEntry)(clock:Nat):Prop:=(∀(i:Nat) (e:MapEntry),arr[i]?=some e->e.born<clock)/\∀(i j:Nat) (e f:MapEntry),arr[i]?=some e->arr[j]?=some f->e.born=f.born->i=j
def ia (es:List (D×D))(idx:List Nat):List D:=idx.map λi=>match es[i]? with|some p=>.tup [p.1,p.2]|none=>.none
def gN (arr:Array MapEntry)(idx:List Nat):Array Nat:=(idx.map λi=>match arr[i]? with|some e=>e.born|none=>0).toArray
def eD (w:World)(B j:Nat):Ob->Prop
 |.dead=>True
 |.tr=>True
 |.fz t=>t.one=true/\Rep C.cap H t (hv j) (Z.o j)
 |.fbox t=>∃k v,hv j=.pointer (some ⟨k,0,none⟩)/\Rep C.cap H t v (Z.o j)/\∀i u,v.cells[i]?=some u->H.c k i=some u
 |.box _ aP=>∃k cs T ds,hv j=.pointer (some ⟨k,0,none⟩)/\own k=some j/\w.heap[k]?=some (.cells cs T (0,0))/\cs.size=aP.length/\Z.o j=.agg ds/\ds.length=aP.length/\
   ∀i s,aP[i]?=some s->(∀gs s',s≠.opt gs s')/\ba C S Z H hv s (cs.getD i undef) (ds.getD i .none)
 |.row T e=>∃cells xs,Z.o j=.list xs/\w.ownsRow B T e.size (hv j) xs.length cells/\j4 C.cap H e cells xs/\∀k,(hv j).ownBlock=some k->own k=some j
 |.mp kt et=>∃k arr clock es,hv j=.map (some k)/\own k=some j/\w.heap[k]?=some (.map arr clock)/\Z.o j=.map es/\es.length=arr.size/\(es.length<=maxLen/\nI arr clock)/\
   ∀(i:Nat) (e:MapEntry) (p:D×D),arr[i]?=some e->es[i]?=some p->Rep C.cap H kt e.key p.1/\Rep C.cap H et e.val p.2
 |.it kt et=>∃k m arr clock es idx,hv j=.pointer (some ⟨k,0,none⟩)/\own k=some j/\own m=some j/\k≠m/\w.heap[m]?=some (.map arr clock)/\w.heap[k]?=some (.mapIter (some m) clock (gN arr idx) clock)/\
   Z.o j=.tup [.list (ia es idx),.map es]/\idx.Nodup/\(∀i,i∈idx->i<arr.size)/\es.length=arr.size/\nI arr clock/\
   ∀(i:Nat) (e:MapEntry) (p:D×D),arr[i]?=some e->es[i]?=some p->Rep C.cap H kt e.key p.1/\Rep C.cap H et e.val p.2
structure Base extends Im where
 B:Nat
 /--may tI function aMh back its result here?-/
 fin:Prop
 F:D->(Nat->Prop)->(Nat->Prop)->World->Prop
 lt:∀t fx cx w,F t fx cx w->∀k,fx k->k<w.heap.size
 sub:∀t fx cx w,F t fx cx w->∀k,cx k->fx k
 keep:∀t fx cx w w',F t fx cx w->Below 0 w w'->(∀k,fx k->w'.heap[k]?=w.heap[k]?)->F t fx cx w'
instance:Coe Base Im:=⟨Base.toIm⟩
def Base.mk0 (H:Im)(B:Nat):Base:={H with B:=B,fin:=True,F:=λ_ fx cx _=>(∀k,¬fx k)/\∀k,¬cx k,lt:=λ_ _ _ _ h k hk=>absurd hk (h.1 k),sub:=λ_ _ _ _ h k hk=>absurd hk (h.2 k),keep:=λ_ _ _ _ _ h _ _=>h}
def lf (H:Im)(B:Nat):List Deferred->Prop
 |[]=>True
 |d::ds=>(∃D,d={target:=.collected D,args:=#[]}/\H.m D=some fZ/\B<=D/\d∉ds)/\lf H B ds
def lf.mono {H τ:Im}(hle:H.le τ){B:Nat}:∀{ds:List Deferred},lf H B ds->lf τ B ds
 |[],_=>trivial
 |_::_,⟨⟨D,h1,h2,h3⟩,h⟩=>⟨⟨D,h1,hle.m _ _ h2,h3⟩,lf.mono hle h⟩
structure FrOK (B:Nat) (σ0:Base) (w:World) (t:D) (fx cx:Nat->Prop):Prop where
 F:σ0.F t fx cx w
 own:∀k j,own k=some j->¬fx k
 c:∀k o x,H.c k o=some x->¬cx k
 m:∀k x,H.m k=some x->¬cx k
 d:∀k,H.m k=some fZ->B<=k->¬fx k
structure Inv (w0:World) (σ0:Base) (A:Nat->Prop) (a:Act) (w:World):Prop where
 defers:lf H w0.heap.size a.defers
 ok:H.ok w
 le:σ0.le H
 old:σ0.fin->∀k,σ0.m k=some fZ->k<w0.heap.size
 newc:∀k o x,H.c k o=some x->σ0.c k o=some x\/w0.heap.size<=k
 newm:∀k es,H.m k=some es->σ0.m k=some es\/w0.heap.size<=k
 below:Below σ0.B w0 w
 bw:σ0.B<=w0.heap.size
 owns:∀k j,own k=some j->w0.heap.size<=k/\k<w.heap.size/\(∀o,H.c k o=none)/\H.m k=none
 regs:∀t,ba C S Z H hv (S.r t) (a.tmps.getD t undef) (Z.r t)
 objs:∀j,eD C S Z H own hv w w0.heap.size j (S.o j)
 opts:∀t gs s,S.r t=.opt gs s->(∀g,g∈gs->A g.1)/\∀bY s',s≠.opt bY s'
 frame:∃t fx cx,FrOK H own w0.heap.size σ0 w t fx cx/\∀j,S.o j=.tr->(∃ys,C.yl=some (j,ys))/\Z.o j=t
end
def Good (C:Ctx)(w0:World)(σ0:Base)(S:St)(Z:Env)(A:Nat->Prop)(a:Act)(w:World):Prop:=
 ∃H own hv,Inv C S Z H own hv w0 σ0 A a w
structure Compat (S:St) (hv:Nat->Value) (S':St) (hv':Nat->Value):Prop where
 ver:∀j,S.ver j<=S'.ver j
 hv:∀j,S'.ver j=S.ver j->hv' j=hv j
def Compat.refl (S:St)(hv:Nat->Value):Compat S hv S hv:=⟨λ_=>bL _,λ_ _=>rfl⟩
def Compat.setO (S:St)(hv:Nat->Value)(j:Nat)(ob:Ob):Compat S hv (S.setO j ob) hv:=⟨λ_=>bL _,λ_ _=>rfl⟩
def St.setO_o (S:St)(j:Nat)(ob:Ob):(S.setO j ob).o j=ob:=bh _ _ _
section
variable {C:Ctx} {S S':St} {Z Z':Env} {H H':Im} {own own':Nat->Option Nat} {hv hv':Nat->Value}
def Ev.monoR (hσ:Im.leR C.cap H H')(hc:Compat S hv S' hv'):∀{c:AgC} {v:Value} {d:D},Ev C S H hv c v d->Ev C S' H' hv' c v d
 |.dat t,v,d,h=>⟨h.1,hσ.rep h.2⟩
 |.obj j ver,v,d,h=>by
  refine⟨jf h.1 (hc.ver j),λe=>?_⟩;have e1:S'.ver j=S.ver j:=by have:=hc.ver j;have:=h.1;omega
  rw[hc.hv j e1];exact h.2 (by omega)
def ba.monoR (hσ:Im.leR C.cap H H')(hc:Compat S hv S' hv'):∀{s:Sh} {v:Value} {d:D},(∀gs s',s=.opt gs s'->holds gs Z'=holds gs Z)->
 (∀gs s',s=.opt gs s'->∀bY Jt,s'≠.opt bY Jt)->ba C S Z H hv s v d->ba C S' Z' H' hv' s v d:=by
 intro s
 induction s with
 |none=>intros;trivial
 |yv=>intro v d _ _ h;exact h
 |fclo f caps=>
  intro v d _ _ h;obtain⟨vs,h1,h2,h3⟩:=h;refine⟨vs,h1,h2,λi j ver hi=>?_⟩;obtain⟨g1,g2⟩:=h3 i j ver hi;refine⟨jf g1 (hc.ver j),λe=>?_⟩;have e1:S'.ver j=S.ver j:=by have:=hc.ver j;omega
  rw[hc.hv j e1];exact g2 (by omega)
 |dat t=>intro v d _ _ h;exact hσ.rep h
 |agg l=>
  intro v d _ _ h;obtain⟨vs,ds,h1,h2,h3,h4,h5⟩:=h;exact⟨vs,ds,h1,h2,h3,h4,λi c hi=>(h5 i c hi).monoR hσ hc⟩
 |obj j ver=>
  intro v d _ _ h;refine⟨jf h.1 (hc.ver j),λe=>?_⟩;have e1:S'.ver j=S.ver j:=by have:=hc.ver j;have:=h.1;omega
  rw[hc.hv j e1];exact h.2 (by omega)
 |ptr j ver off=>
  intro v d _ _ h;refine⟨jf h.1 (hc.ver j),λe=>?_⟩;have e1:S'.ver j=S.ver j:=by have:=hc.ver j;have:=h.1;omega
  rw[hc.hv j e1];exact h.2 (by omega)
 |eptr j ver size off=>
  intro v d _ _ h;refine⟨jf h.1 (hc.ver j),λe=>?_⟩;have e1:S'.ver j=S.ver j:=by have:=hc.ver j;have:=h.1;omega
  rw[hc.hv j e1];exact h.2 (by omega)
 |opt gs s ih=>
  intro v d hg hn h;refine⟨λhh=>ih (λbY s' e=>absurd e (hn gs s rfl bY s')) (λbY s' e=>absurd e (hn gs s rfl bY s')) (h.1 (by rw[<-hg gs s rfl];exact hh)),λhh=>h.2 (by rw[<-hg gs s rfl];exact hh)⟩
def ba.mono (hσ:H.le H')(hc:Compat S hv S' hv'){s:Sh}{v:Value}{d:D}(h1:∀gs s',s=.opt gs s'->holds gs Z'=holds gs Z)
 (h2:∀gs s',s=.opt gs s'->∀bY Jt,s'≠.opt bY Jt) (h:ba C S Z H hv s v d):ba C S' Z' H' hv' s v d:=ba.monoR hσ.leR hc h1 h2 h
def ba.monoR' (hσ:Im.leR C.cap H H')(hc:Compat S hv S' hv'){s:Sh}{v:Value}{d:D}(hn:∀gs s',s≠.opt gs s')(h:ba C S Z H hv s v d):ba C S' Z' H' hv' s v d:=
 ba.monoR hσ hc (λgs s' e=>absurd e (hn gs s')) (λgs s' e=>absurd e (hn gs s')) h
def ba.mono' (hσ:H.le H')(hc:Compat S hv S' hv'){s:Sh}{v:Value}{d:D}(hn:∀gs s',s≠.opt gs s')(h:ba C S Z H hv s v d):ba C S' Z' H' hv' s v d:=
 ba.monoR' hσ.leR hc hn h
def j4.monoR {cap:Nat->Option CSig}(hσ:Im.leR cap H H'){e:Ty}{cells:List Value}{xs:List D}(h:j4 cap H e cells xs):j4 cap H' e cells xs:=by
 obtain⟨vs,h1,h2⟩:=h;exact⟨vs,λi x hx=>hσ.rep (h1 i x hx),h2⟩
def eD.monoR (hσ:Im.leR C.cap H H')(hc:Compat S hv S' hv'){w w':World}{B j:Nat}{ob:Ob}(hj:hv' j=hv j)(hr:Z'.o j=Z.o j)
 (hk:∀k,own k=some j->own' k=some j/\w'.heap[k]?=w.heap[k]?) (h:eD C S Z H own hv w B j ob):eD C S' Z' H' own' hv' w' B j ob:=by
 cases ob with
 |dead=>trivial
 |tr=>trivial
 |fz t=>exact⟨h.1,by rw[hj,hr];exact hσ.rep h.2⟩
 |fbox t=>
  obtain⟨k,v,h1,h2,h3⟩:=h;exact⟨k,v,by rw[hj];exact h1,by rw[hr];exact hσ.rep h2,λi u hu=>hσ.c _ _ _ (h3 i u hu)⟩
 |box ag aP=>
  obtain⟨k,cs,T,ds,h1,h2,h3,h4,h5,h6,h7⟩:=h;refine⟨k,cs,T,ds,by rw[hj];exact h1,(hk k h2).1,by rw[(hk k h2).2];exact h3,h4,by rw[hr];exact h5,h6,λi s hs=>?_⟩;obtain⟨g1,g3⟩:=h7 i s hs;exact⟨g1,g3.monoR' hσ hc g1⟩
 |row T e=>
  obtain⟨cells,xs,h1,h2,h3,h4⟩:=h;refine⟨cells,xs,by rw[hr];exact h1,?_,h3.monoR hσ,λk hb=>(hk k (h4 k (by rw[<-hj];exact hb))).1⟩;rw[hj];refine⟨h2.1,?_⟩;rcases h2.2 with h|⟨g,cap,cur,e1,e2,e3,e4⟩
  .exact .inl h
  .exact .inr ⟨g,cap,cur,e1,e2,by rw[(hk g (h4 g (by rw[e1];rfl))).2];exact e3,e4⟩
 |mp kt et=>
  obtain⟨k,arr,clock,es,h1,h2,h3,h4,h5,hx,h6⟩:=h;refine⟨k,arr,clock,es,by rw[hj];exact h1,(hk k h2).1,by rw[(hk k h2).2];exact h3,by rw[hr];exact h4,h5,hx,λi e p he hp=>?_⟩;exact⟨hσ.rep (h6 i e p he hp).1,hσ.rep (h6 i e p he hp).2⟩
 |it kt et=>
  obtain⟨k,m,arr,clock,es,idx,h1,h2,h3,aI,h4,h5,h6,h7,h8,h9,gX,pQ⟩:=h;refine⟨k,m,arr,clock,es,idx,by rw[hj];exact h1,(hk k h2).1,(hk m h3).1,aI,by rw[(hk m h3).2];exact h4,by rw[(hk k h2).2];exact h5,by rw[hr];exact h6,h7,h8,h9,gX,λi e p he hp=>?_⟩;exact⟨hσ.rep (pQ i e p he hp).1,hσ.rep (pQ i e p he hp).2⟩
def eD.mono (hσ:H.le H')(hc:Compat S hv S' hv'){w w':World}{B j:Nat}{ob:Ob}(hj:hv' j=hv j)(hr:Z'.o j=Z.o j)
 (hk:∀k,own k=some j->own' k=some j/\w'.heap[k]?=w.heap[k]?) (h:eD C S Z H own hv w B j ob):eD C S' Z' H' own' hv' w' B j ob:=h.monoR hσ.leR hc hj hr hk
end
section
variable {C:Ctx} {S:St} {Z:Env} {H:Im} {own:Nat->Option Nat} {hv:Nat->Value} {w0:World} {σ0:Base} {A:Nat->Prop} {a:Act} {w:World}
def GM {gs:List (Nat×Bool)}{Z:Env}{t:Nat}{d:D}(h:∀g,g∈gs->g.1≠t):holds gs (Z.setR t d)=holds gs Z:=by
 unfold holds
 induction gs with
 |nil=>rfl
 |cons g gs ih=>
  simp only[vO];rw[ih λx hx=>h x (fY _ hx)];simp[Env.setR,bU _ _ (h g (gy ..))]
def JB (a:Act)(t u:Nat)(v:Value):(a.put (some t) v).tmps.getD u undef=if u=t/\t<a.tmps.size then v else a.tmps.getD u undef:=by
 simp only[Act.put,iK,Ew];by_cases h:t=u
 .subst h;by_cases h2:t<a.tmps.size
  .simp[h2]
  .simp[h2]
 .have h':¬u=t:=λe=>h e.symm;simp[h,h']
def Inv.step (h:Inv C S Z H own hv w0 σ0 A a w){S':St}{Z':Env}{H':Im}{own':Nat->Option Nat}{hv':Nat->Value}{A':Nat->Prop}{a':Act}{w':World}(W:Nat->Prop)
 (hd:a'.defers=a.defers) (hσ:H.le H') (aE:H'.ok w')
 (gG:∀k o x,H'.c k o=some x->H.c k o=some x\/(w0.heap.size<=k/\((∃j,own k=some j)\/w.heap.size<=k))) (eK:∀k es,H'.m k=some es->H.m k=some es\/(w0.heap.size<=k/\((∃j,own k=some j)\/w.heap.size<=k)))
 (hb:Below w0.heap.size w w') (hc:Compat S hv S' hv')
 (hW:∀j,¬W j->S'.o j=S.o j/\Z'.o j=Z.o j/\hv' j=hv j/\∀k,own k=some j->own' k=some j/\w'.heap[k]?=w.heap[k]?)
 (No:∀j,W j->eD C S' Z' H' own' hv' w' w0.heap.size j (S'.o j))
 (dv:∀k j,own' k=some j->w0.heap.size<=k/\k<w'.heap.size/\(∀o,H'.c k o=none)/\H'.m k=none)
 (hA:∀t,A t->A' t)
 (hr:∀t,(S'.r t=S.r t/\a'.tmps.getD t undef=a.tmps.getD t undef/\Z'.r t=Z.r t)\/
   (ba C S' Z' H' hv' (S'.r t) (a'.tmps.getD t undef) (Z'.r t)/\∀gs s,S'.r t=.opt gs s->(∀g,g∈gs->A' g.1)/\∀bY s',s≠.opt bY s'))
 (hg:∀t,A t->Z'.r t=Z.r t) (mu:∀k,k<w.heap.size->own k=none->w'.heap[k]?=w.heap[k]?) (hof:∀k i,own' k=some i->(∃j,own k=some j)\/w.heap.size<=k) (G4:∀j,W j->S'.o j≠.tr):Inv C S' Z' H' own' hv' w0 σ0 A' a' w' where
 defers:=by rw[hd];exact h.defers.mono hσ
 ok:=aE
 le:=h.le.trans hσ
 old:=h.old
 newc:=λk o x hx=>(gG k o x hx).elim (h.newc k o x) λe=>.inr e.1
 newm:=λk x hx=>(eK k x hx).elim (h.newm k x) λe=>.inr e.1
 below:=h.below.trans (hb.mono h.bw)
 bw:=h.bw
 owns:=dv
 regs:=λt=>by
  rcases hr t with⟨h1,h2,h3⟩|h4
  .rw[h1,h2,h3];refine ba.mono hσ hc (λgs s e=>?_) (λgs s e=>(h.opts t gs s e).2) (h.regs t);unfold holds;have bj:∀g,g∈gs->Z'.r g.1=Z.r g.1:=λg hm=>hg _ ((h.opts t gs s e).1 g hm);clear e
   induction gs with
   |nil=>rfl
   |cons g gs ih=>simp only[vO];rw[ih λx hx=>bj x (fY _ hx),bj g (gy ..)]
  .exact h4.1
 objs:=λj=>by
  by_cases hj:W j
  .exact No j hj
  .obtain⟨h1,h2,h3,h4⟩:=hW j hj;rw[h1];exact(h.objs j).mono hσ hc h3 h2 h4
 opts:=λt gs s e=>by
  rcases hr t with⟨h1,h2,h3⟩|h4
  .obtain⟨g1,g2⟩:=h.opts t gs s (by rw[<-h1];exact e);exact⟨λg hm=>hA _ (g1 g hm),g2⟩
  .exact h4.2 gs s e
 frame:=by
  obtain⟨t,fx,cx,hf,h4⟩:=h.frame;have aq:=σ0.lt _ _ _ _ hf.F;have sD:∀k,(∃j,own k=some j)\/w.heap.size<=k->¬fx k:=by
   rintro k (⟨j,hj⟩|hk) hfx
   .exact hf.own k j hj hfx
   .have:=aq k hfx;omega
  refine⟨t,fx,cx,⟨σ0.keep _ _ _ _ _ hf.F (hb.mono (vU _)) (λk hk=>mu k (aq k hk) ?_),λk j hj=>sD k (hof k j hj),λk o x hx=>?_,λk x hx=>?_,λk hx hB=>?_⟩,λj hj=>?_⟩
  .cases e:own k with
   |none=>rfl
   |some j=>exact absurd hk (hf.own k j e)
  .rcases gG k o x hx with e|e
   .exact hf.c k o x e
   .exact λhc=>sD k e.2 (σ0.sub _ _ _ _ hf.F k hc)
  .rcases eK k x hx with e|e
   .exact hf.m k x e
   .exact λhc=>sD k e.2 (σ0.sub _ _ _ _ hf.F k hc)
  .rcases eK k _ hx with e|e
   .exact hf.d k e hB
   .exact sD k e.2
  .by_cases hw:W j
   .exact absurd hj (G4 j hw)
   .obtain⟨e1,e2,_⟩:=hW j hw;rw[e2];exact h4 j (by rw[<-e1];exact hj)
def Inv.setReg (h:Inv C S Z H own hv w0 σ0 A a w){t:Nat}(ht:¬A t){s:Sh}{v:Value}{d:D}(hs:ba C S (Z.setR t d) H hv s v d)(aq:t<a.tmps.size)
 (U9:∀gs s',s=.opt gs s'->(∀g,g∈gs->A g.1)/\∀bY Jt,s'≠.opt bY Jt):
 Inv C (S.setR t s) (Z.setR t d) H own hv w0 σ0 (λu=>A u\/u=t) (a.put (some t) v) w:=by
 refine h.step (λ_=>False) rfl (.refl H) h.ok (λ_ _ _ hx=>.inl hx) (λ_ _ hx=>.inl hx) (.refl _ _) ⟨λ_=>bL _,λ_ _=>rfl⟩ (λj _=>⟨rfl,rfl,rfl,λk hk=>⟨hk,rfl⟩⟩) (λj hj=>hj.elim) h.owns (λ_=>.inl) (λu=>?_) (λu hu=>?_) (λk _ _=>?_) (λk i hk=>.inl ⟨i,hk⟩) (λ_ hf=>hf.elim)
 .by_cases hu:u=t
  .subst hu;refine .inr ⟨?_,?_⟩
   .rw[JB];simp only[St.setR,Env.setR,bh,aq,and_self,if_true];refine ba.mono (S:=S) (S':=S.setR u s) (Z:=Z.setR u d) (Z':=Z.setR u d) (hv:=hv) (.refl H) ⟨λ_=>bL _,λ_ _=>rfl⟩ (λgs s' e=>?_) (λgs s' e=>(U9 gs s' e).2) hs;rfl
   .intro gs s' e;simp only[St.setR,bh] at e;exact⟨λg hm=>.inl ((U9 gs s' e).1 g hm),(U9 gs s' e).2⟩
  .refine .inl ⟨by simp[St.setR,bU _ _ hu],?_,by simp[Env.setR,bU _ _ hu]⟩;rw[JB];simp[hu]
 .exact bU _ _ (λe=>ht (e▸hu))
 .rfl
end
def aqB {cap:Nat->Option CSig}{H:Im}{v:Value}{x:Ty×D}(h:Tw v=some x):Rep cap H x.1 v x.2:=by
 unfold Tw at h;split at h
 .split at h
  .rename_i hh;cases h;exact .int _ _ hh.1 hh.2
  .cases h
 .cases h;exact .bool _
 .split at h
  .rename_i hh;cases h;exact .str _ hh
  .cases h
 .cases h;exact .nils _
 .cases h
mutual
def Ty.sub_one:∀a b:Ty,Ty.sub a b=true->a.one=b.one/\a.size=b.size
 |.nils a,b,h=>by
  cases b<;>simp_all [Ty.sub,Ty.beq,Ty.one,Ty.size]
 |.nsl a,b,h=>by
  cases b<;>simp_all [Ty.sub,Ty.beq,Ty.one,Ty.size]
 |.agg a,b,h=>by
  cases b with
  |agg b=>simp only[Ty.sub] at h;exact⟨rfl,(Ty.subs_len a b h)⟩
  |_=>simp[Ty.sub,Ty.beq] at h
 |.tup a,b,h=>by
  cases b with
  |tup b=>exact⟨rfl,rfl⟩
  |_=>simp[Ty.sub,Ty.beq] at h
 |.int a,b,h=>by cases b<;>simp_all [Ty.sub,Ty.beq,Ty.one,Ty.size]
 |.bool,b,h=>by cases b<;>simp_all [Ty.sub,Ty.beq,Ty.one,Ty.size]
 |.str,b,h=>by cases b<;>simp_all [Ty.sub,Ty.beq,Ty.one,Ty.size]
 |.slice a,b,h=>by cases b<;>simp_all [Ty.sub,Ty.beq,Ty.one,Ty.size]
 |.map a c,b,h=>by cases b<;>simp_all [Ty.sub,Ty.beq,Ty.one,Ty.size]
 |.ref a,b,h=>by cases b<;>simp_all [Ty.sub,Ty.beq,Ty.one,Ty.size]
 |.fn a r,b,h=>by cases b<;>simp_all [Ty.sub,Ty.beq,Ty.one,Ty.size]
 |.trm,b,h=>by cases b<;>simp_all [Ty.sub,Ty.beq,Ty.one,Ty.size]
def Ty.subs_len:∀a b:List Ty,Ty.subs a b=true->a.length=b.length
 |[],b,h=>by cases b<;>simp_all [Ty.subs]
 |x::a,b,h=>by
  cases b with
  |nil=>simp[Ty.subs] at h
  |cons y b=>simp only[Ty.subs,aA] at h;simp[Ty.subs_len a b h.2]
end
def Ty.subs_get:∀a b:List Ty,Ty.subs a b=true->∀(i:Nat) (t:Ty),b[i]?=some t->∃s,a[i]?=some s/\Ty.sub s t=true
 |[],b,h,i,t,hi=>by cases b<;>simp_all [Ty.subs]
 |x::a,b,h,i,t,hi=>by
  cases b with
  |nil=>simp[Ty.subs] at h
  |cons y b=>
   simp only[Ty.subs,aA] at h;cases i with
   |zero=>simp only[Rx,bx] at hi ⊢;subst hi;exact⟨x,rfl,h.1⟩
   |succ i=>simp only[aec] at hi ⊢;exact Ty.subs_get a b h.2 i t hi
def Rep.sub {cap:Nat->Option CSig}{H:Im}{s:Ty}{v:Value}{d:D}(h:Rep cap H s v d):∀{t:Ty},Ty.sub s t=true->Rep cap H t v d:=by
 induction h with
 |nils e=>
  intro t ht;cases t with
  |slice b=>exact .nil b
  |nils b=>exact .nils b
  |_=>simp[Ty.sub,Ty.beq] at ht
 |nsl0 e=>
  intro t ht;cases t with
  |slice b=>exact .nil b
  |nsl b=>exact .nsl0 b
  |_=>simp[Ty.sub,Ty.beq] at ht
 |nsl e k o n c xs h hx ih=>
  intro t ht;cases t with
  |slice b=>simp only[Ty.sub] at ht;rw[<-Ty.beq_eq _ _ ht];exact h
  |nsl b=>simp only[Ty.sub,Ty.beq] at ht;rw[<-Ty.beq_eq _ _ ht];exact .nsl e k o n c xs h hx
  |_=>simp[Ty.sub,Ty.beq] at ht
 |agg ts vs ds h1 h2 h ho ih=>
  intro t ht;cases t with
  |agg us=>
   simp only[Ty.sub] at ht;have hl:=Ty.subs_len ts us ht;refine .agg us vs ds (by omega) (by omega) (λi t hi=>?_) (λi t hi=>?_)
   .obtain⟨s,hs,dw⟩:=Ty.subs_get ts us ht i t hi;exact ih i s hs dw
   .obtain⟨s,hs,dw⟩:=Ty.subs_get ts us ht i t hi;rw[<-(Ty.sub_one s t dw).1];exact ho i s hs
  |_=>simp[Ty.sub,Ty.beq] at ht
 |tup ts vs ds h1 h2 h ih=>
  intro t ht;cases t with
  |tup us=>
   simp only[Ty.sub] at ht;have hl:=Ty.subs_len ts us ht;refine .tup us vs ds (by omega) (by omega) (λi t hi=>?_);obtain⟨s,hs,dw⟩:=Ty.subs_get ts us ht i t hi;exact ih i s hs dw
  |_=>simp[Ty.sub,Ty.beq] at ht
 |int k n h1 h2=>
  intro t ht;have:=Ty.beq_eq (.int k) t (by cases t<;>simp_all [Ty.sub]);subst this;exact .int k n h1 h2
 |bool b=>
  intro t ht;have:=Ty.beq_eq .bool t (by cases t<;>simp_all [Ty.sub]);subst this;exact .bool b
 |str s h=>
  intro t ht;have:=Ty.beq_eq .str t (by cases t<;>simp_all [Ty.sub]);subst this;exact .str s h
 |nil e=>
  intro t ht;have:=Ty.beq_eq (.slice e) t (by cases t<;>simp_all [Ty.sub]);subst this;exact .nil e
 |emp e a=>
  intro t ht;have:=Ty.beq_eq (.slice e) t (by cases t<;>simp_all [Ty.sub]);subst this;exact .emp e a
 |slice e k o n c xs vs hn hc hm h hv=>
  intro t ht;have:=Ty.beq_eq (.slice e) t (by cases t<;>simp_all [Ty.sub]);subst this;exact .slice e k o n c xs vs hn hc hm h hv
 |mapnil kt et=>
  intro t ht;have:=Ty.beq_eq (.map kt et) t (by cases t<;>simp_all [Ty.sub]);subst this;exact .mapnil kt et
 |map kt et r j0 es hm hl hx hk he=>
  intro t ht;have:=Ty.beq_eq (.map kt et) t (by cases t<;>simp_all [Ty.sub]);subst this;exact .map kt et r j0 es hm hl hx hk he
 |ref s k o v d h hv=>
  intro t ht;have:=Ty.beq_eq (.ref s) t (by cases t<;>simp_all [Ty.sub]);subst this;exact .ref s k o v d h hv
 |fn f cs vs ds hc h1 h2 h=>
  intro t ht;have:=Ty.beq_eq (.fn cs.args cs.res) t (by cases t<;>simp_all [Ty.sub]);subst this;exact .fn f cs vs ds hc h1 h2 h
 |fnnil aa r=>
  intro t ht;have:=Ty.beq_eq (.fn aa r) t (by cases t<;>simp_all [Ty.sub]);subst this;exact .fnnil aa r
structure CtxOK (C:Ctx) (σ0:Im):Prop where
 glob:∀g x,C.glob g=some x->Rep C.cap σ0 (.ref x.1) (.pointer (some ⟨g,0,none⟩)) (.ref x.2)
def aCZ {bY gs:List (Nat×Bool)}{Z:Env}(h:QK bY gs=true)(hg:holds gs Z=true):holds bY Z=true:=by
 unfold holds QK at*;rw[fe] at*;intro g hm;obtain⟨k,hk,wR⟩:=A7.1 (h g hm);simp only[aA,beq_iff_eq] at wR;have h1:=aK wR.1;have e:g=k:=by cases g;cases k;simp_all
 rw[e];exact hg k hk
section
variable {C:Ctx} {S:St} {Z:Env} {H:Im} {own:Nat->Option Nat} {hv:Nat->Value} {w0:World} {σ0:Base} {A:Nat->Prop} {a:Act} {w:World} {gs:List (Nat×Bool)}
def vG (h:Inv C S Z H own hv w0 σ0 A a w)(hg:holds gs Z=true)(t:Nat):ba C S Z H hv (rN S gs t) (a.tmps.getD t undef) (Z.r t)/\∀bY s',rN S gs t≠.opt bY s':=by
 have hr:=h.regs t;unfold rN;cases hs:S.r t with
 |opt bY s=>
  rw[hs] at hr;have ho:=(h.opts t bY s hs).2;simp only;cases hb:QK bY gs with
  |true=>exact⟨hr.1 (aCZ hb hg),ho⟩
  |false=>exact⟨trivial,λ_ _ e=>by cases e⟩
 |_=>rw[hs] at hr;exact⟨hr,λ_ _ e=>by cases e⟩
def Rep.dcells {cap:Nat->Option CSig}{t:Ty}{v:Value}{d:D}(h:Rep cap H t v d)(ht:t.one=true):d.cells=[d]:=by
 cases h<;>simp_all [Ty.one,D.cells]
def Tq (h:Inv C S Z H own hv w0 σ0 A a w){b:PE}{cs:List Value}{ds:List D}(hd:b.ev Z=.agg ds):
 ∀(aP:List Sh) (i:Nat) (r:List Ty×List PE),(∀m s,aP[m]?=some s->ba C S Z H hv s (cs.getD (i+m) undef) (ds.getD (i+m) .none))->y5 S b aP i=some r->
  r.1.length=aP.length/\∃es,(PE.evc Z r.2=es/\PE.evs Z r.2=es)/\es.length=aP.length/\(∀m t,r.1[m]?=some t->t.one=true/\Rep C.cap H t (cs.getD (i+m) undef) (es.getD m .none)):=by
 intro aP
 induction aP with
 |nil=>intro i r bj hr;simp[y5] at hr;subst hr;exact⟨rfl,[],⟨rfl,rfl⟩,rfl,by simp⟩
 |cons s aP ih=>
  intro i r bj hr;simp only[y5,aJ] at hr;obtain⟨x,hx,hr⟩:=hr
  have CV:∀m s,aP[m]?=some s->ba C S Z H hv s (cs.getD (i+1+m) undef) (ds.getD (i+1+m) .none):=λm s hm=>by
   have:=bj (m+1) s (by simpa using hm)
   rwa [show i+(m+1)=i+1+m by omega] at this
  obtain⟨l1,es,⟨he,uG⟩,l2,cG⟩:=ih (i+1) x CV hx;have h0:=bj 0 s rfl;simp only[qE] at h0;split at hr
  .rename_i t;cases dA:t.one<;>simp only[dA,zyv,zyu] at hr
   .cases hr
   .cases hr;have eH:Rep C.cap H t (cs.getD i undef) (ds.getD i .none):=h0;refine⟨by simp[l1],ds.getD i .none::es,⟨?_,by simp only[PE.evs,PE.ev,hd,D.c,D.cells,uG]⟩,by simp[l2],λm t' hm=>?_⟩
    .simp only[PE.evc,PE.ev,hd,D.c,D.cells,he];have:=eH.dcells dA;simp only[D.cells] at this;rw[this];rfl
    .cases m with
     |zero=>simp at hm;subst hm;exact⟨dA,eH⟩
     |succ m=>simp at hm;have:=cG m t' hm;rwa [show i+1+m=i+(m+1) by omega] at this
  .rename_i j' ver;cases hb:Nat.beq ver (S.ver j')<;>simp only[hb,zyv,zyu] at hr
   .cases hr
   .have gm:=aK hb;split at hr
    .rename_i t eo;cases hr;have ho:=h.objs j';rw[eo] at ho;have eH:cs.getD i undef=hv j':=h0.2 gm;refine⟨by simp[l1],Z.o j'::es,⟨?_,by simp only[PE.evs,PE.ev,uG]⟩,by simp[l2],λm t' hm=>?_⟩
     .simp only[PE.evc,PE.ev,he];rw[ho.2.dcells ho.1];rfl
     .cases m with
      |zero=>simp at hm;subst hm;exact⟨ho.1,by rw[qE,eH];exact ho.2⟩
      |succ m=>simp at hm;have:=cG m t' hm;rwa [show i+1+m=i+(m+1) by omega] at this
    .cases hr
  .cases hr
def cM (h:Inv C S Z H own hv w0 σ0 A a w)(hC:CtxOK C σ0)(hg:holds gs Z=true){x:Operand}{r:Ty×PE}(hu:use C S gs x=some r):Rep C.cap H r.1 (a.eval x) (r.2.ev Z):=by
 cases x with
 |const v=>
  simp only[use,aT] at hu;obtain⟨y,hy,rfl⟩:=hu;exact aqB hy
 |func f=>
  simp only[use] at hu;split at hu
  .rename_i aa r hc;cases hu;exact .fn f ⟨[],aa,r⟩ [] [] hc rfl rfl (λi t hi=>by simp at hi)
  .cases hu
 |global g=>
  simp only[use,aT] at hu;obtain⟨y,hy,rfl⟩:=hu;exact(hC.glob g y hy).mono h.le
 |tmp t=>
  obtain⟨hs,_⟩:=vG h hg t;simp only[use] at hu;split at hu
  .rename_i ty e;rw[e] at hs;cases hu;exact hs
  .rename_i j ver e;rw[e] at hs;cases hb:Nat.beq ver (S.ver j)<;>simp only[hb,zyv,zyu] at hu
   .cases hu
   .have gm:=aK hb;have ho:=h.objs j;split at hu
    .rename_i ty eo;rw[eo] at ho;cases hu;show Rep C.cap H ty (a.tmps.getD t undef) (Z.o j);rw[hs.2 gm];exact ho.2
    .cases hu
  .rename_i j ver off e;rw[e] at hs;cases hb:(Nat.beq ver (S.ver j)&&Nat.beq off 0)<;>simp only[hb,zyv,zyu] at hu
   .cases hu
   .simp only[aA] at hb;have gm:=aK hb.1;have jP:=aK hb.2;have ho:=h.objs j;split at hu
    .rename_i ty eo;rw[eo] at ho;cases hu;obtain⟨k,v,h1,h2,h3⟩:=ho;obtain⟨k',e1,e2⟩:=hs.2 gm;rw[h1] at e1;cases e1;subst jP;show Rep C.cap H (.ref ty) (a.tmps.getD t undef) (.ref (Z.o j));rw[e2];exact .ref ty k 0 v _ h2 (by simpa using h3)
    .cases hu
  .rename_i l e;rw[e] at hs;simp only[aT] at hu;obtain⟨p,hp,rfl⟩:=hu;obtain⟨vs,ds,e1,e2,e3,e4,e5⟩:=hs
   obtain⟨l1,es,⟨he,_⟩,l2,cG⟩:=Tq (b:=.r t) h (cs:=vs) (ds:=ds) e2 _ 0 p (λm s hm=>by
      rw[dF,aT] at hm;obtain⟨c,hc,rfl⟩:=hm;rw[jh];have:=e5 m c hc;cases c with
      |dat t=>exact this.2
      |obj j ver=>exact this) hp
   rw[nN] at l1 l2;show Rep C.cap H (.agg p.1) (a.tmps.getD t undef) (.agg (PE.evc Z p.2));rw[e1,he];refine .agg _ _ _ (by omega) (by omega) (λm t hm=>?_) (λm t hm=>(cG m t hm).1);have:=(cG m t hm).2
   rwa [jh] at this
  .cases hu
end
end Cx
