/-
  Shared texts of this claim.
-/
import Derived.Laws.AppendOwn
import Derived.Below
import Derived.Laws.StructEq
import Derived.ChangeKeysEq
import Derived.Calls
import Derived.Laws.Cells
import Derived.Laws.Entries
noncomputable section
set_option linter.defProp false
namespace Cx
open Go
def zyx{α:Type _}{a b:α}:cond false a b=b:=rfl
def zyy{α:Type _}{a b:α}:cond true a b=a:=rfl
def zyz{α:Sort _}{a:α}:a=a:=_root_.id rfl
def ao:type_of% @Bool.and_eq_true:=@Bool.and_eq_true
def ay:type_of% @Nat.eq_of_beq_eq_true:=@Nat.eq_of_beq_eq_true
def az:type_of% @Option.bind_eq_some_iff:=@Option.bind_eq_some_iff
def aB:type_of% @Option.map_eq_some_iff:=@Option.map_eq_some_iff
def aE:type_of% @List.getD_eq_getElem?_getD:=@List.getD_eq_getElem?_getD
def aU:type_of% @List.getElem?_eq_getElem:=@List.getElem?_eq_getElem
def aX:type_of% @Nat.le_refl:=@Nat.le_refl
def aZ:type_of% @Option.some.injEq:=@Option.some.injEq
def bU:type_of% @List.getElem_mem:=@List.getElem_mem
def bX:type_of% @List.getElem?_map:=@List.getElem?_map
def cr:type_of% @List.mem_map:=@List.mem_map
def cB:type_of% @List.mem_cons:=@List.mem_cons
def cN:type_of% @List.all_eq_true:=@List.all_eq_true
def dC:type_of% @List.mem_append:=@List.mem_append
def dO:type_of% @List.length_take:=@List.length_take
def ed:type_of% @Array.getElem?_eq_some_iff:=@Array.getElem?_eq_some_iff
def ef:type_of% @List.length_map:=@List.length_map
def eu:type_of% @List.getElem?_eq_some_iff:=@List.getElem?_eq_some_iff
def ew:type_of% @List.getElem_of_mem:=@List.getElem_of_mem
def eR:type_of% @List.mem_filter:=@List.mem_filter
def fe:type_of% @Array.getD_eq_getD_getElem?:=@Array.getD_eq_getD_getElem?
def fq:type_of% @List.mem_cons_of_mem:=@List.mem_cons_of_mem
def fu:type_of% @List.mem_range:=@List.mem_range
def fw:type_of% @Nat.zero_add:=@Nat.zero_add
def fQ:type_of% @List.getElem?_take:=@List.getElem?_take
def fR:type_of% @List.mem_cons_self:=@List.mem_cons_self
def gl:type_of% @List.getElem?_drop:=@List.getElem?_drop
def gm:type_of% @Nat.le_trans:=@Nat.le_trans
def ir:type_of% @Array.getElem?_eq_getElem:=@Array.getElem?_eq_getElem
def iS:type_of% @List.map_cons:=@List.map_cons
def iT:type_of% @List.mem_append_left:=@List.mem_append_left
def iU:type_of% @Nat.add_zero:=@Nat.add_zero
def jn:type_of% @List.take_succ_eq_append_getElem:=@List.take_succ_eq_append_getElem
def jG:type_of% @List.mem_append_right:=@List.mem_append_right
def jH:type_of% @Nat.add_mul:=@Nat.add_mul
def jI:type_of% @Nat.le_of_ble_eq_true:=@Nat.le_of_ble_eq_true
def jJ:type_of% @Nat.mul_le_mul_right:=@Nat.mul_le_mul_right
def jK:type_of% @Nat.zero_le:=@Nat.zero_le
def kg:type_of% @List.getElem?_eq_none:=@List.getElem?_eq_none
def kh:type_of% @List.mem_of_getElem?:=@List.mem_of_getElem?
def ki:type_of% @Nat.beq_refl:=@Nat.beq_refl
def kj:type_of% @Option.map_some:=@Option.map_some
def kK:type_of% @Bool.not_eq_true':=@Bool.not_eq_true'
def kL:type_of% @Bool.or_eq_true:=@Bool.or_eq_true
def kM:type_of% @Option.getD_some:=@Option.getD_some
def lu:type_of% @Nat.lt_of_lt_of_le:=@Nat.lt_of_lt_of_le
def lZ:type_of% @List.getElem?_append:=@List.getElem?_append
def mM:type_of% @List.length_append:=@List.length_append
def mN:type_of% @Nat.min_eq_left:=@Nat.min_eq_left
def nO:type_of% @Int.le_refl:=@Int.le_refl
def nP:type_of% @List.getElem?_append_left:=@List.getElem?_append_left
def nQ:type_of% @List.getElem?_append_right:=@List.getElem?_append_right
def nR:type_of% @List.map_append:=@List.map_append
def nS:type_of% @List.map_map:=@List.map_map
def nT:type_of% @Prod.mk.injEq:=@Prod.mk.injEq
def py:type_of% @Array.getElem?_toList:=@Array.getElem?_toList
def pz:type_of% @List.getElem?_range:=@List.getElem?_range
def pA:type_of% @List.length_filter_le:=@List.length_filter_le
def pB:type_of% @List.nodup_cons:=@List.nodup_cons
def pC:type_of% @Nat.blt_eq:=@Nat.blt_eq
def pD:type_of% @Nat.mod_lt:=@Nat.mod_lt
def pE:type_of% @Option.bind_some:=@Option.bind_some
def qM:type_of% @Array.mem_of_getElem?:=@Array.mem_of_getElem?
def qN:type_of% @Bool.cond_eq_ite:=@Bool.cond_eq_ite
def qP:type_of% @Int.eq_ofNat_of_zero_le:=@Int.eq_ofNat_of_zero_le
def qQ:type_of% @List.getD_cons_zero:=@List.getD_cons_zero
def qT:type_of% @List.length_cons:=@List.length_cons
def qU:type_of% @Nat.add_assoc:=@Nat.add_assoc
def sI:type_of% @Bool.false_and:=@Bool.false_and
def sJ:type_of% @List.all_cons:=@List.all_cons
def sK:type_of% @List.append_assoc:=@List.append_assoc
def sL:type_of% @List.map_congr_left:=@List.map_congr_left
def uh:type_of% @Array.ext':=@Array.ext'
def ui:type_of% @Bool.eq_iff_iff:=@Bool.eq_iff_iff
def uj:type_of% @Bool.or_true:=@Bool.or_true
def um:type_of% @List.append_nil:=@List.append_nil
def uo:type_of% @List.foldl_append:=@List.foldl_append
def uq:type_of% @Nat.mul_comm:=@Nat.mul_comm
def ur:type_of% @Option.some.inj:=@Option.some.inj
def vt:type_of% @Array.toList_inj:=@Array.toList_inj
def vu:type_of% @Array.toList_map:=@Array.toList_map
def vx:type_of% @List.ext_getElem?:=@List.ext_getElem?
def vy:type_of% @List.flatMap_cons:=@List.flatMap_cons
def vz:type_of% @List.length_eq_zero_iff:=@List.length_eq_zero_iff
def vA:type_of% @List.mem_singleton:=@List.mem_singleton
def vB:type_of% @Nat.div_lt_iff_lt_mul:=@Nat.div_lt_iff_lt_mul
def vC:type_of% @Ne.symm:=@Ne.symm
def xE:type_of% @Bool.false_eq_true:=@Bool.false_eq_true
def xJ:type_of% @Int.le_trans:=@Int.le_trans
def xK:type_of% @Int.toNat_natCast:=@Int.toNat_natCast
def xL:type_of% @List.any_eq_true:=@List.any_eq_true
def xM:type_of% @List.foldl_cons:=@List.foldl_cons
def xN:type_of% @List.getElem?_toArray:=@List.getElem?_toArray
def xO:type_of% @List.length_pos_iff:=@List.length_pos_iff
def xP:type_of% @List.map_id:=@List.map_id
def xQ:type_of% @List.mem_flatMap:=@List.mem_flatMap
def xR:type_of% @List.nil_append:=@List.nil_append
def xS:type_of% @List.pairwise_cons:=@List.pairwise_cons
def xT:type_of% @List.take_of_length_le:=@List.take_of_length_le
def xU:type_of% @Nat.div_add_mod:=@Nat.div_add_mod
def xV:type_of% @Nat.two_pow_pos:=@Nat.two_pow_pos
def Ag:type_of% @Array.length_toList:=@Array.length_toList
def Ah:type_of% @Bool.and_false:=@Bool.and_false
def Ai:type_of% @Bool.true_and:=@Bool.true_and
def Aj:type_of% @Classical.byContradiction:=@Classical.byContradiction
def An:type_of% @Int.mul_nonneg:=@Int.mul_nonneg
def Ao:type_of% @List.find?_eq_none:=@List.find?_eq_none
def Ap:type_of% @List.getElem?_of_mem:=@List.getElem?_of_mem
def Aq:type_of% @List.length_nil:=@List.length_nil
def Ar:type_of% @List.mem_filterMap:=@List.mem_filterMap
def As:type_of% @List.mem_map_of_mem:=@List.mem_map_of_mem
def Au:type_of% @List.take_length:=@List.take_length
def Av:type_of% @Nat.add_comm:=@Nat.add_comm
def Aw:type_of% @Nat.mul_le_mul:=@Nat.mul_le_mul
def DM:type_of% @Array.getElem?_setIfInBounds:=@Array.getElem?_setIfInBounds
def DN:type_of% @Bool.true_or:=@Bool.true_or
def DR:type_of% @Int.tdiv_eq_ediv_of_nonneg:=@Int.tdiv_eq_ediv_of_nonneg
def DS:type_of% @List.filter_append:=@List.filter_append
def DT:type_of% @List.getD_cons_succ:=@List.getD_cons_succ
def DU:type_of% @List.getElem?_set:=@List.getElem?_set
def DV:type_of% @List.getElem?_take_of_lt:=@List.getElem?_take_of_lt
def DW:type_of% @List.mem_of_find?_eq_some:=@List.mem_of_find?_eq_some
def DX:type_of% @Nat.div_add_mod':=@Nat.div_add_mod'
def DY:type_of% @Nat.eq_zero_or_pos:=@Nat.eq_zero_or_pos
def IT:type_of% @Classical.em:=@Classical.em
def IW:type_of% @Function.comp_def:=@Function.comp_def
def IY:type_of% @Int.add_mul:=@Int.add_mul
def IZ:type_of% @List.cons_append:=@List.cons_append
def I0:type_of% @List.getElem?_cons_succ:=@List.getElem?_cons_succ
def I1:type_of% @List.nodup_append:=@List.nodup_append
def I3:type_of% @List.pairwise_iff_getElem:=@List.pairwise_iff_getElem
def I4:type_of% @List.pairwise_map:=@List.pairwise_map
def I5:type_of% @List.range_succ:=@List.range_succ
def I6:type_of% @List.takeWhile_sublist:=@List.takeWhile_sublist
def I7:type_of% @List.take_append_drop:=@List.take_append_drop
def I8:type_of% @Nat.lt_or_ge:=@Nat.lt_or_ge
def I9:type_of% @Nat.mod_eq_of_lt:=@Nat.mod_eq_of_lt
def Ja:type_of% @Nat.mul_one:=@Nat.mul_one
def Pc:type_of% @Array.eq_empty_of_size_eq_zero:=@Array.eq_empty_of_size_eq_zero
def Pd:type_of% @Array.getElem?_modify:=@Array.getElem?_modify
def Pe:type_of% @Bool.or_false:=@Bool.or_false
def Pk:type_of% @Int.tmod_eq_emod_of_nonneg:=@Int.tmod_eq_emod_of_nonneg
def Pl:type_of% @List.eq_nil_of_length_eq_zero:=@List.eq_nil_of_length_eq_zero
def Pm:type_of% @List.ext_getElem:=@List.ext_getElem
def Pn:type_of% @List.find?_some:=@List.find?_some
def Po:type_of% @List.getElem?_cons_zero:=@List.getElem?_cons_zero
def Pp:type_of% @List.length_drop:=@List.length_drop
def Pq:type_of% @List.pairwise_append:=@List.pairwise_append
def Pr:type_of% @List.range'_succ:=@List.range'_succ
def Ps:type_of% @List.range_eq_range':=@List.range_eq_range'
def Pt:type_of% @List.take_take:=@List.take_take
def Pu:type_of% @Nat.le_div_iff_mul_le:=@Nat.le_div_iff_mul_le
def Pv:type_of% @Nat.pow_add:=@Nat.pow_add
def Pw:type_of% @Nat.sub_self:=@Nat.sub_self
def Px:type_of% @Nat.zero_mul:=@Nat.zero_mul
def aac:type_of% @Array.getElem?_append_left:=@Array.getElem?_append_left
def aad:type_of% @Array.getElem?_setIfInBounds_ne:=@Array.getElem?_setIfInBounds_ne
def aae:type_of% @Array.getElem_mem:=@Array.getElem_mem
def aaf:type_of% @Array.mem_filter:=@Array.mem_filter
def aag:type_of% @Array.size_ofFn:=@Array.size_ofFn
def aah:type_of% @Bool.eq_false_iff:=@Bool.eq_false_iff
def aai:type_of% @Bool.or_eq_false_iff:=@Bool.or_eq_false_iff
def aaj:type_of% @Classical.choose_spec:=@Classical.choose_spec
def aal:type_of% @Int.ediv_le_ediv:=@Int.ediv_le_ediv
def aam:type_of% @Int.ediv_nonneg:=@Int.ediv_nonneg
def aan:type_of% @Int.mul_le_mul:=@Int.mul_le_mul
def aao:type_of% @Int.mul_le_mul_of_nonneg_left:=@Int.mul_le_mul_of_nonneg_left
def aar:type_of% @List.drop_eq_nil_iff:=@List.drop_eq_nil_iff
def aas:type_of% @List.eq_nil_iff_forall_not_mem:=@List.eq_nil_iff_forall_not_mem
def aat:type_of% @List.filter_eq_self:=@List.filter_eq_self
def aau:type_of% @List.flatten_cons:=@List.flatten_cons
def aav:type_of% @List.foldl_map:=@List.foldl_map
def aaw:type_of% @List.getElem?_replicate:=@List.getElem?_replicate
def aax:type_of% @List.getElem?_take_eq_none:=@List.getElem?_take_eq_none
def aay:type_of% @List.isEmpty_iff:=@List.isEmpty_iff
def aaz:type_of% @List.length_range:=@List.length_range
def aaA:type_of% @List.mapM_cons:=@List.mapM_cons
def aaB:type_of% @List.mem_of_mem_take:=@List.mem_of_mem_take
def aaC:type_of% @List.nodup_range:=@List.nodup_range
def aaE:type_of% @Nat.add_mul_mod_self_right:=@Nat.add_mul_mod_self_right
def aaF:type_of% @Nat.div_le_self:=@Nat.div_le_self
def aaG:type_of% @Nat.lt_of_le_of_lt:=@Nat.lt_of_le_of_lt
def aaH:type_of% @Nat.lt_of_not_le:=@Nat.lt_of_not_le
def aaI:type_of% @Nat.mul_assoc:=@Nat.mul_assoc
def aaJ:type_of% @Nat.mul_div_mul_right:=@Nat.mul_div_mul_right
def aaK:type_of% @Option.isSome_iff_exists:=@Option.isSome_iff_exists
def aaL:type_of% @Option.map_map:=@Option.map_map
def akj:type_of% @Int.fdiv_eq_ediv_of_nonneg:=@Int.fdiv_eq_ediv_of_nonneg
def akn:type_of% @List.drop_eq_getElem_cons:=@List.drop_eq_getElem_cons
def ako:type_of% @List.mem_take_iff_getElem:=@List.mem_take_iff_getElem
inductive D where
 |v (x:Value)
 |agg (cs:List D)
 |list (xs:List D)
 |map (es:List (D×D))
 |ref (d:D)
 |clo (f:Nat) (caps:List D)
 |tup (ds:List D)
 |none
 deriving Inhabited
namespace D
def int (n:Int):D:=.v (.int .i64 n)
def bool (b:Bool):D:=.v (.bool b)
def i:D->Int|.v (.int _ n)=>n|_=>0
def b:D->Bool|.v (.bool x)=>x|_=>false
def s:D->ByteArray|.v (.string x)=>x|_=>ByteArray.empty
def cells:D->List D|.agg cs=>cs|d=>[d]
def c (d:D)(k:Nat):D:=d.cells.getD k .none
def l:D->List D|.list xs=>xs|_=>[]
def m:D->List (D×D)|.map es=>es|_=>[]
def tget:D->Nat->D|.tup ds,k=>ds.getD k .none|_,_=>.none
def deref:D->D|.ref d=>d|_=>.none
def fn:D->Nat|.clo f _=>f|_=>0
def caps:D->List D|.clo _ cs=>cs|_=>[]
end D
inductive Ty where
 |int (k:IntKind)
 |bool
 |str
 |agg (ts:List Ty)
 |slice (e:Ty)
 |nils (e:Ty)
 /--a slice DA is nil if it is empty-/
 |nsl (e:Ty)
 |map (k e:Ty)
 |ref (t:Ty)
 |fn (args:List Ty) (res:Ty)
 |tup (ts:List Ty)
 |trm
 deriving Inhabited,Repr
def Ty.size:Ty->Nat
 |.agg ts=>ts.length
 |.trm=>3
 |_=>1
def Ty.one:Ty->Bool
 |.agg _|.tup _|.trm=>false
 |_=>true
def Ty.rowT:Ty->Bool
 |.agg _=>true
 |_=>false
mutual
def Ty.beq:Ty->Ty->Bool
 |.int a,.int b=>a==b
 |.bool,.bool|.str,.str|.trm,.trm=>true
 |.fn a r,.fn b s=>Ty.beqs a b&&Ty.beq r s
 |.agg a,.agg b=>Ty.beqs a b
 |.tup a,.tup b=>Ty.beqs a b
 |.slice a,.slice b=>Ty.beq a b
 |.nils a,.nils b=>Ty.beq a b
 |.nsl a,.nsl b=>Ty.beq a b
 |.ref a,.ref b=>Ty.beq a b
 |.map a b,.map c d=>Ty.beq a c&&Ty.beq b d
 |_,_=>false
def Ty.beqs:List Ty->List Ty->Bool
 |[],[]=>true
 |a::aa,b::bs=>Ty.beq a b&&Ty.beqs aa bs
 |_,_=>false
end
mutual
def Ty.beq_eq:∀a b:Ty,Ty.beq a b=true->a=b
 |.int a,b,h=>by cases b<;>simp_all [Ty.beq]
 |.bool,b,h=>by cases b<;>simp_all [Ty.beq]
 |.str,b,h=>by cases b<;>simp_all [Ty.beq]
 |.trm,b,h=>by cases b<;>simp_all [Ty.beq]
 |.fn a r,b,h=>by
  cases b with
  |fn b s=>simp only[Ty.beq,ao] at h;rw[Ty.beqs_eq a b h.1,Ty.beq_eq r s h.2]
  |_=>simp[Ty.beq] at h
 |.agg a,b,h=>by
  cases b with
  |agg b=>simp only[Ty.beq] at h;rw[Ty.beqs_eq a b h]
  |_=>simp[Ty.beq] at h
 |.tup a,b,h=>by
  cases b with
  |tup b=>simp only[Ty.beq] at h;rw[Ty.beqs_eq a b h]
  |_=>simp[Ty.beq] at h
 |.slice a,b,h=>by
  cases b with
  |slice b=>simp only[Ty.beq] at h;rw[Ty.beq_eq a b h]
  |_=>simp[Ty.beq] at h
 |.nils a,b,h=>by
  cases b with
  |nils b=>simp only[Ty.beq] at h;rw[Ty.beq_eq a b h]
  |_=>simp[Ty.beq] at h
 |.nsl a,b,h=>by
  cases b with
  |nsl b=>simp only[Ty.beq] at h;rw[Ty.beq_eq a b h]
  |_=>simp[Ty.beq] at h
 |.ref a,b,h=>by
  cases b with
  |ref b=>simp only[Ty.beq] at h;rw[Ty.beq_eq a b h]
  |_=>simp[Ty.beq] at h
 |.map a c,b,h=>by
  cases b with
  |map b d=>simp only[Ty.beq,ao] at h;rw[Ty.beq_eq a b h.1,Ty.beq_eq c d h.2]
  |_=>simp[Ty.beq] at h
def Ty.beqs_eq:∀a b:List Ty,Ty.beqs a b=true->a=b
 |[],b,h=>by cases b<;>simp_all [Ty.beqs]
 |x::a,b,h=>by
  cases b with
  |nil=>simp[Ty.beqs] at h
  |cons y b=>simp only[Ty.beqs,ao] at h;rw[Ty.beq_eq x y h.1,Ty.beqs_eq a b h.2]
end
mutual
def Ty.beq_refl:∀a:Ty,Ty.beq a a=true
 |.int a=>by simp[Ty.beq]
 |.bool=>rfl
 |.str=>rfl
 |.trm=>rfl
 |.fn a r=>by simp only[Ty.beq,ao];exact⟨Ty.beqs_refl a,Ty.beq_refl r⟩
 |.agg a=>by simp only[Ty.beq];exact Ty.beqs_refl a
 |.tup a=>by simp only[Ty.beq];exact Ty.beqs_refl a
 |.slice a=>by simp only[Ty.beq];exact Ty.beq_refl a
 |.nils a=>by simp only[Ty.beq];exact Ty.beq_refl a
 |.nsl a=>by simp only[Ty.beq];exact Ty.beq_refl a
 |.ref a=>by simp only[Ty.beq];exact Ty.beq_refl a
 |.map a b=>by simp only[Ty.beq,ao];exact⟨Ty.beq_refl a,Ty.beq_refl b⟩
def Ty.beqs_refl:∀a:List Ty,Ty.beqs a a=true
 |[]=>rfl
 |x::a=>by simp only[Ty.beqs,ao];exact⟨Ty.beq_refl x,Ty.beqs_refl a⟩
end
def Ty.trmA:Ty:=.agg [.int .i64,.int .i64,.slice .trm]
def Ty.unf:Ty->Ty
 |.trm=>.trmA
 |t=>t
def Ty.rol (t:Ty):Ty:=bif Ty.beq t .trmA then .trm else t
def Ty.unf_size (t:Ty):t.unf.size=t.size:=by cases t<;>rfl
def Ty.rol_size (t:Ty):t.rol.size=t.size:=by
 unfold Ty.rol;cases h:Ty.beq t .trmA with
 |true=>rw[Ty.beq_eq t .trmA h];rfl
 |false=>rfl
def Ty.unf_rol (t:Ty):t.rol.unf=t.unf:=by
 unfold Ty.rol;cases h:Ty.beq t .trmA with
 |true=>rw[Ty.beq_eq t .trmA h];rfl
 |false=>rfl
def Ty.unf_ro {t:Ty}(h:t.rowT=true\/t.one=true):t.unf=t:=by
 cases t with
 |trm=>simp[Ty.rowT,Ty.one] at h
 |_=>rfl
structure CSig where
 caps:List Ty
 args:List Ty
 res:Ty
 deriving Inhabited
structure Im where
 c:Nat->Nat->Option Value
 m:Nat->Option (List (Value×Value))
structure Im.le (V τ:Im):Prop where
 c:∀k o v,V.c k o=some v->τ.c k o=some v
 m:∀k es,V.m k=some es->τ.m k=some es
def Im.le.refl (V:Im):V.le V:=⟨λ_ _ _ h=>h,λ_ _ h=>h⟩
def Im.le.trans {a b c:Im}(h:a.le b)(k:b.le c):a.le c:=⟨λx y z e=>k.c _ _ _ (h.c x y z e),λx y e=>k.m _ _ (h.m x y e)⟩
def entriesOf (es:Array MapEntry):List (Value×Value):=es.toList.map λe=>(e.key,e.val)
def cC:List (Value×Value):=[(.nilIface,.nilIface)]
def mH:List (Value×Value):=[(.nilIface,.nilIface),(.nilIface,.nilIface)]
def xd:mH≠cC:=by intro h;cases h
def qj (w:World)(k:Nat)(es:List (Value×Value)):Prop:=(es≠cC/\∃arr clock,w.heap[k]?=some (.map arr clock)/\entriesOf arr=es)\/(es=cC/\w.heap[k]?=some (.deferred (some [])))\/(es=mH/\∃cs T fz,w.heap[k]?=some (.cells cs T fz))
def qj.lt {w:World}{k:Nat}{es:List (Value×Value)}(h:qj w k es):k<w.heap.size:=by
 rcases h with⟨_,_,_,h,_⟩|⟨_,h⟩|⟨_,_,_,_,h⟩<;>exact(ed.1 h).1
def qj.keep {w w':World}{k:Nat}{es:List (Value×Value)}(h:qj w k es)(e:w'.heap[k]?=w.heap[k]?):qj w' k es:=by
 unfold qj;rw[e];exact h
structure Im.ok (V:Im) (w:World):Prop where
 c:∀k o v,V.c k o=some v->w.cell? ⟨k,o,none⟩=some v
 m:∀k es,V.m k=some es->qj w k es
 /--numbers can be stored to,but for a aIc (blocks 0 to 2)-/
 f:∀k o n,V.c k o=some (.int .i64 n)->k<=2\/w.frozen? ⟨k,o,none⟩=false
inductive Rep (cap:Nat->Option CSig) (V:Im):Ty->Value->D->Prop where
 |int (k:IntKind) (n:Int) (h1:k.min<=n) (h2:n<=k.max):Rep cap V (.int k) (.int k n) (.v (.int k n))
 |bool (b:Bool):Rep cap V .bool (.bool b) (.v (.bool b))
 |str (s:ByteArray) (h:s.size<=maxLen):Rep cap V .str (.string s) (.v (.string s))
 |agg (ts:List Ty) (vs:List Value) (ds:List D) (h1:vs.length=ts.length) (h2:ds.length=ts.length)
   (h:∀(i:Nat) (t:Ty),ts[i]?=some t->Rep cap V t (vs.getD i undef) (ds.getD i .none)) (ho:∀(i:Nat) (t:Ty),ts[i]?=some t->t.one=true):Rep cap V (.agg ts) (.agg vs.toArray) (.agg ds)
 |tup (ts:List Ty) (vs:List Value) (ds:List D) (h1:vs.length=ts.length) (h2:ds.length=ts.length)
   (h:∀(i:Nat) (t:Ty),ts[i]?=some t->Rep cap V t (vs.getD i undef) (ds.getD i .none)):Rep cap V (.tup ts) (.tuple vs.toArray) (.tup ds)
 |nil (e:Ty):Rep cap V (.slice e) (.slice none 0 0) (.list [])
 |emp (e:Ty) (a:Addr):Rep cap V (.slice e) (.slice (some a) 0 0) (.list [])
 |nils (e:Ty):Rep cap V (.nils e) (.slice none 0 0) (.list [])
 |nsl0 (e:Ty):Rep cap V (.nsl e) (.slice none 0 0) (.list [])
 |nsl (e:Ty) (k o n c:Nat) (xs:List D) (h:Rep cap V (.slice e) (.slice (some ⟨k,o,none⟩) n c) (.list xs)) (hx:xs≠[]):Rep cap V (.nsl e) (.slice (some ⟨k,o,none⟩) n c) (.list xs)
 |slice (e:Ty) (k o n c:Nat) (xs:List D) (vs:Nat->Value) (hn:xs.length=n) (hc:n<=c) (hm:c<=maxLen)
   (h:∀(i:Nat) (x:D),xs[i]?=some x->Rep cap V e.unf (vs i) x)
   (hv:∀(i j:Nat) (u:Value),i<n->(vs i).cells[j]?=some u->V.c k (o+i*e.size+j)=some u)
   (hz:e=.int .i64->V.m k=some mH):Rep cap V (.slice e) (.slice (some ⟨k,o,none⟩) n c) (.list xs)
 |mapnil (kt et:Ty):Rep cap V (.map kt et) (.map none) (.map [])
 |map (kt et:Ty) (r:Nat) (ij:List (Value×Value)) (es:List (D×D)) (hm:V.m r=some ij) (hl:es.length=ij.length) (hx:es.length<=maxLen)
   (hk:∀(i:Nat) (p:Value×Value) (q:D×D),ij[i]?=some p->es[i]?=some q->Rep cap V kt p.1 q.1)
   (he:∀(i:Nat) (p:Value×Value) (q:D×D),ij[i]?=some p->es[i]?=some q->Rep cap V et p.2 q.2):Rep cap V (.map kt et) (.map (some r)) (.map es)
 |ref (t:Ty) (k o:Nat) (v:Value) (d:D) (h:Rep cap V t v d) (hv:∀(j:Nat) (u:Value),v.cells[j]?=some u->V.c k (o+j)=some u):
   Rep cap V (.ref t) (.pointer (some ⟨k,o,none⟩)) (.ref d)
 |fn (f:Nat) (cs:CSig) (vs:List Value) (ds:List D) (hc:cap f=some cs) (h1:vs.length=cs.caps.length) (h2:ds.length=cs.caps.length)
   (h:∀(i:Nat) (t:Ty),cs.caps[i]?=some t->Rep cap V t (vs.getD i undef) (ds.getD i .none)):Rep cap V (.fn cs.args cs.res) (.func (.func f) #[] vs.toArray) (.clo f ds)
 |fnnil (aa:List Ty) (r:Ty):Rep cap V (.fn aa r) .nilFunc (.v .nilFunc)
def Rep.mono {cap:Nat->Option CSig}{V τ:Im}(hle:V.le τ){t:Ty}{v:Value}{d:D}(h:Rep cap V t v d):Rep cap τ t v d:=by
 induction h with
 |int k n h1 h2=>exact .int k n h1 h2
 |bool b=>exact .bool b
 |str s h=>exact .str s h
 |agg ts vs ds h1 h2 _ ho ih=>exact .agg ts vs ds h1 h2 ih ho
 |tup ts vs ds h1 h2 _ ih=>exact .tup ts vs ds h1 h2 ih
 |nil e=>exact .nil e
 |emp e a=>exact .emp e a
 |nils e=>exact .nils e
 |nsl0 e=>exact .nsl0 e
 |nsl e k o n c xs _ hx ih=>exact .nsl e k o n c xs ih hx
 |slice e k o n c xs vs hn hc hm _ hv hz ih=>exact .slice e k o n c xs vs hn hc hm ih (λi j u hi hu=>hle.c _ _ _ (hv i j u hi hu)) λe=>hle.m _ _ (hz e)
 |mapnil kt et=>exact .mapnil kt et
 |map kt et r ij es hm hl hx _ _ kX Gs=>exact .map kt et r ij es (hle.m _ _ hm) hl hx kX Gs
 |ref t k o v d _ hv ih=>exact .ref t k o v d ih λj u hu=>hle.c _ _ _ (hv j u hu)
 |fn f cs vs ds hc h1 h2 _ ih=>exact .fn f cs vs ds hc h1 h2 ih
 |fnnil aa r=>exact .fnnil aa r
def Im.drop (V:Im)(D:Nat):Im:=⟨V.c,λk=>if k=D then none else V.m k⟩
structure Im.leR (cap:Nat->Option CSig) (V τ:Im):Prop where
 rep:∀{t:Ty} {v:Value} {d:D},Rep cap V t v d->Rep cap τ t v d
 c:∀k o v,V.c k o=some v->τ.c k o=some v
def Im.le.leR {cap:Nat->Option CSig}{V τ:Im}(h:V.le τ):Im.leR cap V τ:=⟨λr=>r.mono h,h.c⟩
def GI {cap:Nat->Option CSig}{V:Im}{kt:Ty}{ij:List (Value×Value)}{es:List (D×D)}(hl:es.length=ij.length)
 (hk:∀(i:Nat) (p:Value×Value) (q:D×D),ij[i]?=some p->es[i]?=some q->Rep cap V kt p.1 q.1):ij≠cC:=by
 rintro rfl
 match es,hl with
 |[q],_=>have:=hk 0 _ q rfl rfl;cases this
def afD {cap:Nat->Option CSig}{V:Im}{kt:Ty}{ij:List (Value×Value)}{es:List (D×D)}(hl:es.length=ij.length)
 (hk:∀(i:Nat) (p:Value×Value) (q:D×D),ij[i]?=some p->es[i]?=some q->Rep cap V kt p.1 q.1):ij≠mH:=by
 rintro rfl
 match es,hl with
 |[q,q'],_=>have:=hk 0 _ q rfl rfl;cases this
def qj.mp {w:World}{k:Nat}{es:List (Value×Value)}(h:qj w k es)(h1:es≠cC)(h2:es≠mH):∃arr clock,w.heap[k]?=some (.map arr clock)/\entriesOf arr=es:=by
 rcases h with h|h|h
 .exact h.2
 .exact absurd h.1 h1
 .exact absurd h.1 h2
def Rep.drop {cap:Nat->Option CSig}{V:Im}{Dd:Nat}(hD:V.m Dd=some cC){t:Ty}{v:Value}{d:D}(h:Rep cap V t v d):Rep cap (V.drop Dd) t v d:=by
 induction h with
 |int k n h1 h2=>exact .int k n h1 h2
 |bool b=>exact .bool b
 |str s h=>exact .str s h
 |agg ts vs ds h1 h2 _ ho ih=>exact .agg ts vs ds h1 h2 ih ho
 |tup ts vs ds h1 h2 _ ih=>exact .tup ts vs ds h1 h2 ih
 |nil e=>exact .nil e
 |emp e a=>exact .emp e a
 |nils e=>exact .nils e
 |nsl0 e=>exact .nsl0 e
 |nsl e k o n c xs _ hx ih=>exact .nsl e k o n c xs ih hx
 |slice e k o n c xs vs hn hc hm _ hv hz ih=>
  refine .slice e k o n c xs vs hn hc hm ih hv λe=>?_;have au:k≠Dd:=λe'=>by subst e';rw[hz e] at hD;exact xd (ur hD)
  simp[Im.drop,au,hz e]
 |mapnil kt et=>exact .mapnil kt et
 |map kt et r ij es hm hl hx hk _ kX Gs=>
  refine .map kt et r ij es ?_ hl hx kX Gs;have au:r≠Dd:=λe=>by subst e;rw[hm] at hD;cases hD;exact GI hl hk rfl
  simp[Im.drop,au,hm]
 |ref t k o v d _ hv ih=>exact .ref t k o v d ih hv
 |fn f cs vs ds hc h1 h2 _ ih=>exact .fn f cs vs ds hc h1 h2 ih
 |fnnil aa r=>exact .fnnil aa r
def Rep.unf {cap:Nat->Option CSig}{V:Im}{t:Ty}{v:Value}{d:D}(h:Rep cap V t v d):Rep cap V t.unf v d:=by
 cases t with
 |trm=>cases h
 |_=>exact h
def Rep.unf_rol {cap:Nat->Option CSig}{V:Im}{t:Ty}{v:Value}{d:D}(h:Rep cap V t v d):Rep cap V t.rol.unf v d:=by
 rw[Ty.unf_rol];exact h.unf
def Rep.size {cap:Nat->Option CSig}{V:Im}{t:Ty}{v:Value}{d:D}(h:Rep cap V t v d):v.cells.size=t.size:=by
 cases h<;>simp_all [Value.cells,Ty.size]
def Rep.oneCell {cap:Nat->Option CSig}{V:Im}{t:Ty}{v:Value}{d:D}(h:Rep cap V t v d)(ht:t.one=true):v.cells=#[v]/\v.oneCell'=true:=by
 cases h<;>simp_all [Value.cells,Ty.one,Value.oneCell']
def D.b_bool (x:Bool):(D.v (.bool x)).b=x:=rfl
def D.i_int (k:IntKind)(n:Int):(D.v (.int k n)).i=n:=rfl
def D.s_str (x:ByteArray):(D.v (.string x)).s=x:=rfl
def D.l_list (x:List D):(D.list x).l=x:=rfl
structure Env where
 r:Nat->D
 o:Nat->D
def bW {α:Type}(f:Nat->α)(i:Nat)(x:α):Nat->α:=λj=>bif Nat.beq j i then x else f j
def fy {i j:Nat}(h:j≠i):Nat.beq j i=false:=by
 cases h':Nat.beq j i
 .rfl
 .exact absurd (ay h') h
def aN {α:Type}(f:Nat->α)(i:Nat)(x:α):bW f i x i=x:=by simp[bW]
def bB {α:Type}(f:Nat->α){i j:Nat}(x:α)(h:j≠i):bW f i x j=f j:=by simp[bW,fy h]
def fp {α:Type}(f:Nat->α)(i j:Nat)(x:α):bW f i x j=if j=i then x else f j:=by
 by_cases h:j=i
 .subst h;simp[bW]
 .simp[bW,fy h,h]
def Env.setR (O:Env)(t:Nat)(d:D):Env:={O with r:=bW O.r t d}
def Env.setO (O:Env)(j:Nat)(d:D):Env:={O with o:=bW O.o j d}
inductive PE where
 |r (t:Nat)|o (j:Nat)|con (d:D)
 |cell (e:PE) (i:Nat)
 |sub (e:PE) (off n:Nat)
 |setc (e:PE) (off:Nat) (x:PE)
 |mk (es:List PE)
 |ai (op:BinOp) (k:IntKind) (x y:PE)
 |ci (op:BinOp) (x y:PE)
 |cb (op:BinOp) (x y:PE)
 |cs (op:BinOp) (x y:PE)
 |sadd (x y:PE)
 |nt (x:PE)
 |conv (k:IntKind) (x:PE)
 |pick (c a b:PE)
 |llen (x:PE)|slen (x:PE)|mlen (x:PE)|bytes (x:PE)
 |nth (x i:PE)|idx (x i:PE)|sidx (x i:PE)|sok (x i:PE)
 |setn (x i:PE) (off:Nat) (y:PE)
 |app (x y:PE)|lst (es:List PE)|rep (n z:PE)
 |slc (x lo hi:PE)|slok (x lo hi:PE)
 |ref (x:PE)|deref (x:PE)
 |look (m k z:PE)|has (m k:PE)|put (m k v:PE)
 |mn (x y:PE)|mx (x y:PE)
 |tup (es:List PE)|tget (e:PE) (i:Nat)
 |clo (f:Nat) (es:List PE)
 |an (x y:PE)|imp (c:List (Nat×Bool)) (x:PE)
 deriving Inhabited
def bV (op:BinOp)(k:IntKind)(a b:Int):Int:=
 match op with
 |.add=>k.wrap (a+b)
 |.sub=>k.wrap (a-b)
 |.mul=>k.wrap (a*b)
 |.quo=>k.wrap (a.tdiv b)
 |.rem=>a.tmod b
 |.and=>k.wrap (BitVec.ofInt k.bits a&&& BitVec.ofInt k.bits b).toNat
 |.or=>k.wrap (BitVec.ofInt k.bits a|||BitVec.ofInt k.bits b).toNat
 |.xor=>k.wrap (BitVec.ofInt k.bits a^^^BitVec.ofInt k.bits b).toNat
 |.andNot=>k.wrap (BitVec.ofInt k.bits a&&& ~~~BitVec.ofInt k.bits b).toNat
 |.shl=>k.wrap (a*2^(min b.toNat k.bits))
 |.shr=>a.fdiv (2^(min b.toNat k.bits))
 |_=>0
def jN (op:BinOp)(a b:Int):Bool:=
 match op with
 |.eql=>a==b|.neq=>a !=b|.lss=>decide (a<b)|.leq=>decide (a<=b)|.gtr=>decide (a>b)|.geq=>decide (a>=b)
 |_=>false
def BE (op:BinOp)(x y:ByteArray):Bool:=
 let eq:=x.toList==y.toList
 let lt:=Op.bytesLess x.toList y.toList
 match op with
 |.eql=>eq|.neq=> !eq|.lss=>lt|.leq=>lt||eq|.gtr=> !(lt||eq)|.geq=> !lt
 |_=>false
def BC (op:BinOp)(x y:Bool):Bool:=
 match op with
 |.eql=>x==y|.neq=> !(x==y)
 |_=>false
def u7:D->D->Bool
 |.v (.int _ a),.v (.int _ b)=>a==b
 |.v (.string a),.v (.string b)=>a==b
 |.v (.bool a),.v (.bool b)=>a==b
 |_,_=>false
def tJ:List D->List D->Bool
 |[],[]=>true
 |a::aa,b::bs=>u7 a b&&tJ aa bs
 |_,_=>false
def eP (a b:D):Bool:=tJ a.cells b.cells
def jf (k:D):List (D×D)->Option D
 |[]=>Option.none
 |e::es=>if eP k e.1 then some e.2 else jf k es
def fj (k v:D):List (D×D)->List (D×D)
 |[]=>[(k,v)]
 |e::es=>if eP k e.1 then(k,v)::es else e::fj k v es
def dg (xs:List D)(off:Nat)(ys:List D):List D:=xs.take off++ys++xs.drop (off+ys.length)
def xk (x:D)(off:Nat)(y:D):D:=
 match x with
 |.agg cs=>.agg (dg cs off y.cells)
 |_=>y
def holds (gs:List (Nat×Bool))(O:Env):Bool:=gs.all λg=>(O.r g.1).b==g.2
mutual
def PE.ev (O:Env):PE->D
 |.r t=>O.r t
 |.o j=>O.o j
 |.con d=>d
 |.cell e i=>(PE.ev O e).c i
 |.sub e off n=>.agg (((PE.ev O e).cells.drop off).take n)
 |.setc e off x=>.agg (dg (PE.ev O e).cells off (PE.ev O x).cells)
 |.mk es=>.agg (PE.evc O es)
 |.ai op k x y=>.v (.int k (bV op k (PE.ev O x).i (PE.ev O y).i))
 |.ci op x y=>.v (.bool (jN op (PE.ev O x).i (PE.ev O y).i))
 |.cb op x y=>.v (.bool (BC op (PE.ev O x).b (PE.ev O y).b))
 |.cs op x y=>.v (.bool (BE op (PE.ev O x).s (PE.ev O y).s))
 |.sadd x y=>.v (.string ((PE.ev O x).s++(PE.ev O y).s))
 |.nt x=>.v (.bool (!(PE.ev O x).b))
 |.conv k x=>.v (.int k (k.wrap (PE.ev O x).i))
 |.pick c a b=>bif (PE.ev O c).b then PE.ev O a else PE.ev O b
 |.llen x=>.v (.int .i64 (PE.ev O x).l.length)
 |.slen x=>.v (.int .i64 (PE.ev O x).s.size)
 |.bytes x=>.list ((PE.ev O x).s.data.toList.map λb=>.v (.int .u8 b.toNat))
 |.mlen x=>.v (.int .i64 (PE.ev O x).m.length)
 |.nth x i=>(PE.ev O x).l.getD (PE.ev O i).i.toNat .none
 |.idx x i=>.v (.bool (decide (0<=(PE.ev O i).i/\(PE.ev O i).i<(PE.ev O x).l.length)))
 |.sidx x i=>.v (.int .u8 ((PE.ev O x).s.data.getD (PE.ev O i).i.toNat 0).toNat)
 |.sok x i=>.v (.bool (decide (0<=(PE.ev O i).i/\(PE.ev O i).i<(PE.ev O x).s.size)))
 |.setn x i off y=>.list ((PE.ev O x).l.set (PE.ev O i).i.toNat (xk ((PE.ev O x).l.getD (PE.ev O i).i.toNat .none) off (PE.ev O y)))
 |.app x y=>.list ((PE.ev O x).l++(PE.ev O y).l)
 |.lst es=>.list (PE.evs O es)
 |.rep n z=>.list (List.replicate (PE.ev O n).i.toNat (PE.ev O z))
 |.slc x lo hi=>.list (((PE.ev O x).l.take (PE.ev O hi).i.toNat).drop (PE.ev O lo).i.toNat)
 |.slok x lo hi=>.v (.bool (decide (0<=(PE.ev O lo).i/\(PE.ev O lo).i<=(PE.ev O hi).i/\(PE.ev O hi).i<=(PE.ev O x).l.length)))
 |.ref x=>.ref (PE.ev O x)
 |.deref x=>(PE.ev O x).deref
 |.look m k z=>(jf (PE.ev O k) (PE.ev O m).m).getD (PE.ev O z)
 |.has m k=>.v (.bool (jf (PE.ev O k) (PE.ev O m).m).isSome)
 |.put m k v=>.map (fj (PE.ev O k) (PE.ev O v) (PE.ev O m).m)
 |.mn x y=>bif decide ((PE.ev O y).i<(PE.ev O x).i) then PE.ev O y else PE.ev O x
 |.mx x y=>bif decide ((PE.ev O y).i>(PE.ev O x).i) then PE.ev O y else PE.ev O x
 |.tup es=>.tup (PE.evs O es)
 |.tget e i=>(PE.ev O e).tget i
 |.clo f es=>.clo f (PE.evs O es)
 |.an x y=>.v (.bool ((PE.ev O x).b&&(PE.ev O y).b))
 |.imp c x=>.v (.bool (!holds c O||(PE.ev O x).b))
def PE.evs (O:Env):List PE->List D
 |[]=>[]
 |e::es=>PE.ev O e::PE.evs O es
def PE.evc (O:Env):List PE->List D
 |[]=>[]
 |e::es=>(PE.ev O e).cells++PE.evc O es
end
def PE.evs_eq (O:Env)(es:List PE):PE.evs O es=es.map (PE.ev O):=by
 induction es with
 |nil=>rfl
 |cons e es ih=>simp[PE.evs,ih]
inductive PI where
 |setR (t:Nat) (e:PE)
 |setO (j:Nat) (e:PE)
 |chk (e:PE)
 |call (gs:List (Nat×Bool)) (dst:Nat) (f:Nat) (args:List PE)
 |callc (gs:List (Nat×Bool)) (dst:Nat) (e:PE) (args:List PE)
 |mcall (j:Nat) (f:Nat) (args:List PE)
 deriving Inhabited
abbrev aS:=Nat->List D->Option D
def PI.run (Z:aS)(O:Env):PI->Option Env
 |.setR t e=>some (O.setR t (e.ev O))
 |.setO j e=>some (O.setO j (e.ev O))
 |.chk e=>bif (e.ev O).b then some O else none
 |.call gs dst f args=>bif holds gs O then(Z f (PE.evs O args)).map (O.setR dst) else some O
 |.callc gs dst e args=>bif holds gs O then(match e.ev O with|.clo f caps=>(Z f (PE.evs O args++caps)).map (O.setR dst)|_=>none) else some O
 |.mcall j f args=>(Z f (PE.evs O args)).map (O.setO j)
def PI.runs (Z:aS):List PI->Env->Option Env
 |[],O=>some O
 |x::xs,O=>(x.run Z O).bind (PI.runs Z xs)
inductive PC where
 |skip
 |is (l:List PI)
 |seq (a b:PC)
 |ite (c:PE) (lr lo:List Nat) (a b:PC)
 |block (id:Nat) (lr lo:List Nat) (a:PC)
 |loop (lr lo:List Nat) (a:PC)
 |exit (id:Nat)
 |ret (e:PE)
 /--for each element of a list:qH aiT 'ps' PL its parts;rt:DG a return in qH body aFw back-/
 |each (e:PE) (ps lo:List Nat) (rt:Option PE) (a:PC)
 /--for each entry of a map,in aIg order:qH aiT 'ps' PL its parts 'aHD;J:DG has aa8 seen,and qH map-/
 |meach (J:Nat) (ps dc lo:List Nat) (a:PC)
 deriving Inhabited
def cP:Nat:=1000000007
inductive Out where
 |next (O:Env)
 |exit (id:Nat) (O:Env)
 |ret (d:D)
def putL (f:Nat->D):List Nat->List D->Nat->D
 |i::is,x::xs=>bW (putL f is xs) i x
 |_,_=>f
def Env.put (O:Env)(lr:List Nat)(vr:List D)(lo:List Nat)(vo:List D):Env:=⟨putL O.r lr vr,putL O.o lo vo⟩
def Env.join (O:Env)(lr lo:List Nat)(O':Env):Env:=O.put lr (lr.map O'.r) lo (lo.map O'.o)
def ve (f g:Nat->D)(l:List Nat)(t:Nat):putL f l (l.map g) t=if t∈l then g t else f t:=by
 induction l with
 |nil=>rfl
 |cons i is ih=>
  simp only[iS,putL,fp,ih,cB];by_cases h:t=i
  .subst h;simp
  .simp[h]
def jh (body:Env->Option Out)(O:Env)(lr lo:List Nat):Nat->List D->List D->Option Out
 |0,_,_=>none
 |n+1,vr,vo=>
  match body (O.put lr vr lo vo) with
  |some (.next O')=>jh body O lr lo n (lr.map O'.r) (lo.map O'.o)
  |x=>x
def partsOf (ps:List Nat)(x:D):List D:=(List.range ps.length).map x.tget
def jr (body:Env->Option Out)(O:Env)(ps lo:List Nat)(rt:Option PE):List D->List D->Option Out
 |[],vo=>some (.next (O.put [] [] lo vo))
 |x::xs,vo=>
  match body (O.put ps (partsOf ps x) lo vo) with
  |some (.next O')=>jr body O ps lo rt xs (lo.map O'.o)
  |some (.exit id O')=>bif Nat.beq id cP then rt.map (λe=>.ret (e.ev (O.put [] [] lo (lo.map O'.o)))) else some (.exit id (O.put [] [] lo (lo.map O'.o)))
  |_=>none
def qt (body:Env->Option Out)(O:Env)(J:Nat)(es:D)(ps dc lo:List Nat):List D->List D->List D->Option (List D)
 |[],_,vo=>some vo
 |x::xs,done,vo=>
  match body ((O.put ps (dc.map x.tget) lo vo).setO J (.tup [.list (done++[x]),es])) with
  |some (.next O')=>qt body O J es ps dc lo xs (done++[x]) (lo.map O'.o)
  |_=>none
def ji (es:D):List D:=es.m.map λp=>.tup [p.1,p.2]
def Nb (body:Env->Option Out)(O:Env)(J:Nat)(ps dc lo:List Nat)(vo:List D):Prop:=
 (O.o J).tget 0=.list []/\∀ys:List D,ys.Perm (ji ((O.o J).tget 1))->qt body O J ((O.o J).tget 1) ps dc lo ys [] (lo.map O.o)=some vo
open Classical in
def Nc (body:Env->Option Out)(O:Env)(J:Nat)(ps dc lo:List Nat):Option Out:=
 if h:∃vo,Nb body O J ps dc lo vo then some (.next (O.put [] [] lo h.choose)) else none
def CU {body:Env->Option Out}{O:Env}{J:Nat}{ps dc lo:List Nat}{x:Out}:Nc body O J ps dc lo=some x↔∃vo,Nb body O J ps dc lo vo/\x=.next (O.put [] [] lo vo):=by
 unfold Nc;constructor
 .intro h;split at h
  .rename_i hh;cases h;exact⟨_,hh.choose_spec,rfl⟩
  .cases h
 .rintro⟨vo,h,rfl⟩;have hh:∃vo,Nb body O J ps dc lo vo:=⟨vo,h⟩
  rw[dif_pos hh];have:=(hh.choose_spec.2 _ (List.Perm.refl _)).symm.trans (h.2 _ (List.Perm.refl _));rw[ur this]
def PC.ev (Z:aS)(n:Nat):PC->Env->Option Out
 |.skip,O=>some (.next O)
 |.is l,O=>(PI.runs Z l O).map .next
 |.seq a b,O=>
  match PC.ev Z n a O with
  |some (.next O')=>PC.ev Z n b O'
  |x=>x
 |.ite c lr lo a b,O=>
  match(bif (c.ev O).b then PC.ev Z n a O else PC.ev Z n b O) with
  |some (.next O')=>some (.next (O.join lr lo O'))
  |x=>x
 |.block id lr lo a,O=>
  match PC.ev Z n a O with
  |some (.next O')=>some (.next (O.join lr lo O'))
  |some (.exit bP O')=>bif Nat.beq bP id then some (.next (O.join lr lo O')) else some (.exit bP O')
  |x=>x
 |.loop lr lo a,O=>jh (PC.ev Z n a) O lr lo n (lr.map O.r) (lo.map O.o)
 |.exit id,O=>some (.exit id O)
 |.ret e,O=>some (.ret (e.ev O))
 |.each e ps lo rt a,O=>jr (PC.ev Z n a) O ps lo rt (e.ev O).l (lo.map O.o)
 |.meach J ps dc lo a,O=>Nc (PC.ev Z n a) O J ps dc lo
def PI.modR:PI->List Nat
 |.setR t _=>[t]|.call _ t _ _=>[t]|.callc _ t _ _=>[t]|_=>[]
def PI.modO:PI->List Nat
 |.setO j _=>[j]|.mcall j _ _=>[j]|_=>[]
def PC.modR:PC->List Nat
 |.skip=>[]|.is l=>l.flatMap PI.modR|.seq a b=>a.modR++b.modR|.ite _ lr _ a b=>lr++a.modR++b.modR
 |.block _ lr _ a=>lr++a.modR|.loop lr _ a=>lr++a.modR|.exit _=>[]|.ret _=>[]|.each ..=>[]|.meach ..=>[]
def PC.modO:PC->List Nat
 |.skip=>[]|.is l=>l.flatMap PI.modO|.seq a b=>a.modO++b.modO|.ite _ _ lo a b=>lo++a.modO++b.modO
 |.block _ _ lo a=>lo++a.modO|.loop _ lo a=>lo++a.modO|.exit _=>[]|.ret _=>[]|.each _ _ lo _ _=>lo|.meach _ _ _ lo _=>lo
structure Env.but (O O':Env) (mr mo:List Nat):Prop where
 r:∀t,t∉mr->O'.r t=O.r t
 o:∀t,t∉mo->O'.o t=O.o t
def Env.but.refl (O:Env)(mr mo:List Nat):O.but O mr mo:=⟨λ_ _=>rfl,λ_ _=>rfl⟩
def Env.but.trans {a b c:Env}{mr mo:List Nat}(h:a.but b mr mo)(k:b.but c mr mo):a.but c mr mo:=
 ⟨λt ht=>(k.r t ht).trans (h.r t ht),λt ht=>(k.o t ht).trans (h.o t ht)⟩
def Env.but.mono {a b:Env}{mr mo mr' mo':List Nat}(h:a.but b mr mo)(h1:∀t,t∈mr->t∈mr')(h2:∀t,t∈mo->t∈mo'):a.but b mr' mo':=
 ⟨λt ht=>h.r t λhm=>ht (h1 t hm),λt ht=>h.o t λhm=>ht (h2 t hm)⟩
def Env.but.join (O O':Env)(lr lo:List Nat):O.but (O.join lr lo O') lr lo:=
 ⟨λt ht=>by simp[Env.join,Env.put,ve,ht],λt ht=>by simp[Env.join,Env.put,ve,ht]⟩
def PI.run_but {Z:aS}{x:PI}{O O':Env}(h:x.run Z O=some O'):O.but O' x.modR x.modO:=by
 cases x with
 |setR t e=>simp only[PI.run,aZ] at h;subst h;exact⟨λu hu=>by simp[PI.modR] at hu;simp[Env.setR,bB _ _ hu],λ_ _=>rfl⟩
 |setO t e=>simp only[PI.run,aZ] at h;subst h;exact⟨λ_ _=>rfl,λu hu=>by simp[PI.modO] at hu;simp[Env.setO,bB _ _ hu]⟩
 |chk e=>
  cases hb:(e.ev O).b<;>simp[PI.run,hb] at h;subst h;exact .refl _ _ _
 |call gs dst f args=>
  cases hb:holds gs O<;>simp[PI.run,hb] at h
  .subst h;exact .refl _ _ _
  .obtain⟨d,_,rfl⟩:=h;exact⟨λu hu=>by simp[PI.modR] at hu;simp[Env.setR,bB _ _ hu],λ_ _=>rfl⟩
 |callc gs dst f args=>
  cases hb:holds gs O<;>simp only[PI.run,hb,zyy,zyx] at h
  .cases h;exact .refl _ _ _
  .split at h
   case h_2=>cases h
   simp only[aB] at h;obtain⟨d,_,rfl⟩:=h;exact⟨λu hu=>by simp[PI.modR] at hu;simp[Env.setR,bB _ _ hu],λ_ _=>rfl⟩
 |mcall j f args=>
  simp[PI.run] at h;obtain⟨d,_,rfl⟩:=h;exact⟨λ_ _=>rfl,λu hu=>by simp[PI.modO] at hu;simp[Env.setO,bB _ _ hu]⟩
def PI.runs_but {Z:aS}:∀{l:List PI} {O O':Env},PI.runs Z l O=some O'->O.but O' (l.flatMap PI.modR) (l.flatMap PI.modO)
 |[],O,O',h=>by simp[PI.runs] at h;subst h;exact .refl _ _ _
 |x::xs,O,O',h=>by
  simp only[PI.runs,az] at h;obtain⟨ρ1,h1,h2⟩:=h;exact((PI.run_but h1).mono (by simp_all) (by simp_all)).trans ((PI.runs_but h2).mono (by simp_all) (by simp_all))
def Out.env?:Out->Option Env
 |.next O=>some O
 |.exit _ O=>some O
 |.ret _=>none
def asR {body:Env->Option Out}{mr mo:List Nat}{O:Env}{lr lo:List Nat}
 (hb:∀O x O',body O=some x->x.env?=some O'->O.but O' mr mo) (h1:∀t,t∈lr->t∈mr) (h2:∀t,t∈lo->t∈mo):
 ∀(n:Nat) (ρ1:Env) (x:Out) (O':Env),jh body O lr lo n (lr.map ρ1.r) (lo.map ρ1.o)=some x->x.env?=some O'->O.but O' mr mo:=by
 intro n
 induction n with
 |zero=>intro ρ1 x O' h;simp[jh] at h
 |succ n ih=>
  intro ρ1 x O' h he;have hj:O.but (O.put lr (lr.map ρ1.r) lo (lo.map ρ1.o)) mr mo:=(Env.but.join O ρ1 lr lo).mono h1 h2;simp only[jh] at h;split at h
  .rename_i ρ2 h3;exact ih ρ2 x O' h he
  .rename_i h3;exact hj.trans (hb _ x O' h he)
def abX {body:Env->Option Out}{O:Env}{ps lo:List Nat}{rt:Option PE}:∀{xs:List D} {ρ1 x O'},jr body O ps lo rt xs (lo.map (Env.o ρ1))=some x->x.env?=some O'->O.but O' [] lo
 |[],ρ1,x,O',h,he=>by
  simp only[jr,aZ] at h;subst h;simp only[Out.env?,aZ] at he;subst he;exact Env.but.join O ρ1 [] lo
 |y::xs,ρ1,x,O',h,he=>by
  simp only[jr] at h;split at h
  .exact abX h he
  .rename_i id ρ2 _;cases hb:Nat.beq id cP<;>simp only[hb,zyy,zyx] at h
   .cases h;simp only[Out.env?,aZ] at he;subst he;exact Env.but.join O ρ2 [] lo
   .simp only[aB] at h;obtain⟨e,_,rfl⟩:=h;simp[Out.env?] at he
  .cases h
def Vg (f:Nat->D):∀(l:List Nat) (vs:List D) (t:Nat),t∉l->putL f l vs t=f t
 |[],_,_,_=>rfl
 |_::_,[],_,_=>rfl
 |i::is,v::vs,t,h=>by
  simp only[putL];rw[bB _ _ (λe=>h (by rw[e];exact fR ..)),Vg f is vs t λhm=>h (fq _ hm)]
def PC.ev_but {Z:aS}{n:Nat}:∀(c:PC) (O:Env) (x:Out) (O':Env),c.ev Z n O=some x->x.env?=some O'->O.but O' c.modR c.modO:=by
 intro c
 induction c with
 |skip=>intro O x O' h he;simp[PC.ev] at h;subst h;simp[Out.env?] at he;subst he;exact .refl _ _ _
 |is l=>
  intro O x O' h he;simp only[PC.ev,aB] at h;obtain⟨ρ1,h1,rfl⟩:=h;simp[Out.env?] at he;subst he;exact PI.runs_but h1
 |seq a b bJ eG=>
  intro O x O' h he;simp only[PC.ev] at h;split at h
  .rename_i ρ1 h1;exact((bJ O _ ρ1 h1 rfl).mono (by simp_all [PC.modR]) (by simp_all [PC.modO])).trans ((eG ρ1 x O' h he).mono (by simp_all [PC.modR]) (by simp_all [PC.modO]))
  .exact(bJ O x O' h he).mono (by simp_all [PC.modR]) (by simp_all [PC.modO])
 |ite c lr lo a b bJ eG=>
  intro O x O' h he;simp only[PC.ev] at h;split at h
  .rename_i ρ1 h1;simp at h;subst h;simp[Out.env?] at he;subst he;exact(Env.but.join O ρ1 lr lo).mono (by simp_all [PC.modR]) (by simp_all [PC.modO])
  .cases hb:(c.ev O).b<;>simp only[hb,zyy,zyx] at h
   .exact(eG O x O' h he).mono (by simp_all [PC.modR]) (by simp_all [PC.modO])
   .exact(bJ O x O' h he).mono (by simp_all [PC.modR]) (by simp_all [PC.modO])
 |block id lr lo a bJ=>
  intro O x O' h he;simp only[PC.ev] at h;split at h
  .rename_i ρ1 h1;simp at h;subst h;simp[Out.env?] at he;subst he;exact(Env.but.join O ρ1 lr lo).mono (by simp_all [PC.modR]) (by simp_all [PC.modO])
  .rename_i bP ρ1 h1;cases hb:Nat.beq bP id<;>simp only[hb,zyy,zyx] at h<;>simp at h<;>subst h<;>simp[Out.env?] at he<;>subst he
   .exact(bJ O _ ρ1 h1 rfl).mono (by simp_all [PC.modR]) (by simp_all [PC.modO])
   .exact(Env.but.join O ρ1 lr lo).mono (by simp_all [PC.modR]) (by simp_all [PC.modO])
  .exact(bJ O x O' h he).mono (by simp_all [PC.modR]) (by simp_all [PC.modO])
 |loop lr lo a bJ=>
  intro O x O' h he;simp only[PC.ev] at h;exact asR (λO x O' h he=>(bJ O x O' h he).mono (by simp_all [PC.modR]) (by simp_all [PC.modO])) (by simp_all [PC.modR]) (by simp_all [PC.modO]) n O x O' h he
 |exit id=>intro O x O' h he;simp[PC.ev] at h;subst h;simp[Out.env?] at he;subst he;exact .refl _ _ _
 |ret e=>intro O x O' h he;simp[PC.ev] at h;subst h;simp[Out.env?] at he
 |each e ps lo rt a bJ=>intro O x O' h he;simp only[PC.ev] at h;exact abX h he
 |meach J ps dc lo a bJ=>
  intro O x O' h he;simp only[PC.ev,CU] at h;obtain⟨vo,_,rfl⟩:=h;simp only[Out.env?,aZ] at he;subst he;exact⟨λ_ _=>rfl,λt ht=>Vg _ _ _ _ ht⟩
inductive AgC where
 |dat (t:Ty)
 |obj (j ver:Nat)
 deriving Inhabited
inductive Sh where
 |none
 |dat (t:Ty)
 |obj (j ver:Nat)
 |ptr (j ver off:Nat)
 |eptr (j ver size off:Nat)
 |opt (gs:List (Nat×Bool)) (s:Sh)
 /--qH function DA aH8 DG is yielded-/
 |yv
 /--a closure of a function DA has captured boxes aAD PL still ahm own-/
 |fclo (f:Nat) (caps:List (Nat×Nat))
 /--a struct DA was read aa it asM:rows and maps in it PL still ahm own-/
 |agg (l:List AgC)
 deriving Inhabited
def AgC.sh:AgC->Sh
 |.dat t=>.dat t
 |.obj j ver=>.obj j ver
inductive Ob where
 |dead
 |fz (t:Ty)
 |fbox (t:Ty)
 |box (ag:Bool) (shs:List Sh)
 |row (T:TypeId) (e:Ty)
 |mp (kt et:Ty)
 /--an iterator over a map DA is ahm own-/
 |it (kt et:Ty)
 /--DG has aa8 yielded so far-/
 |tr
 deriving Inhabited
structure St where
 r:Nat->Sh
 o:Nat->Ob
 ver:Nat->Nat
def St.setR (S:St)(t:Nat)(s:Sh):St:={S with r:=bW S.r t s}
def St.setO (S:St)(j:Nat)(ob:Ob):St:={S with o:=bW S.o j ob}
def St.newO (S:St)(j:Nat)(ob:Ob):St:={S with o:=bW S.o j ob,ver:=bW S.ver j (S.ver j+1)}
inductive RC where
 |dat (t:Ty)
 |row (T:TypeId) (e:Ty)
 deriving Inhabited
inductive Mode where
 |dat
 |row (T:TypeId) (e:Ty)
 /--an iterator:DG it has yielded asM in this place-/
 |it (J:Nat)
 /--qH result is a struct with rows of qH alu own-/
 |rows (l:List RC)
 /--a function DA is handed qH alu own objects:qH aHJ of its aHk,qH objects-/
 |ob (shs:List Sh) (obs:List (Nat×Ob))
 deriving Inhabited
structure Sig where
 args:List Ty
 res:Ty
 mode:Mode
 deriving Inhabited
structure Ctx where
 P:Program
 cap:Nat->Option CSig
 sig:Nat->Option Sig
 aut:Nat->Option (TypeId×Ty×List Ty)
 glob:Nat->Option (Ty×D)
 /--aiT to aAD no slice or map is assigned but aa a datum-/
 fr:List Nat:=[]
 /--fields of boxes DA stay nil aIa aHP is aDS-/
 nh:List Nat:=[]
 /--an iterator:qH place of DG has aa8 yielded,and qH types of DG it aAY;to aIh it aAY-/
 yl:Option (Nat×List Ty):=none
 yv:Value:=undef
def Ty.flat:Ty->List Ty
 |.agg ts=>ts
 |.trm=>[.int .i64,.int .i64,.slice .trm]
 |t=>[t]
def uZ (P:Program)(e:TypeId):Bool:=
 match P.underlying e with
 |some (.struct fs)=>
  match fs.toList with
  |[f0,f1,f2]=>
   (match P.underlying f0.type with|some (.int .i64)=>true|_=>false)&&(match P.underlying f1.type with|some (.int .i64)=>true|_=>false)&&
   (match P.underlying f2.type with|some (.slice e')=>Nat.beq e' e|_=>false)&&
   Nat.beq f0.offset 0&&Nat.beq f1.offset 1&&Nat.beq f2.offset 2&&Nat.beq (P.cellsOf f0.type) 1&&Nat.beq (P.cellsOf f1.type) 1&&Nat.beq (P.cellsOf f2.type) 1&&Nat.beq (P.cellsOf e) 3
  |_=>false
 |_=>false
def sF (P:Program):Nat->TypeId->Option Ty
 |0,_=>Option.none
 |n+1,t=>
  match P.underlying t with
  |some .bool=>some .bool
  |some (.int k)=>some (.int k)
  |some .string=>some .str
  |some (.slice e)=>bif uZ P e then some (.slice .trm) else(sF P n e).map .slice
  |some (.map k e)=>(sF P n k).bind λk=>(sF P n e).map (.map k)
  |some (.pointer e)=>(sF P n e).map .ref
  |some (.func ps rs false)=>
   (ps.toList.mapM (sF P n)).bind λps=>
    match rs.toList with
    |[]=>some (.fn ps (.tup []))
    |[r]=>(sF P n r).map (.fn ps)
    |rs=>(rs.mapM (sF P n)).map λrs=>.fn ps (.tup rs)
  |some (.struct fs)=>(fs.toList.mapM λf=>sF P n f.type).map λts=>.agg (ts.flatMap Ty.flat)
  |some (.array len e)=>(sF P n e).map λt=>.agg ((List.replicate len t.flat).flatten)
  |some (.tuple es)=>(es.toList.mapM (sF P n)).map .tup
  |_=>Option.none
def qI (P:Program)(t:TypeId):Option Ty:=sF P 12 t
mutual
def Ty.sub:Ty->Ty->Bool
 |.nils _,.slice _=>true
 |.nsl a,.slice b=>Ty.beq a b
 |.agg a,.agg b=>Ty.subs a b
 |.tup a,.tup b=>Ty.subs a b
 |a,b=>Ty.beq a b
def Ty.subs:List Ty->List Ty->Bool
 |[],[]=>true
 |a::aa,b::bs=>Ty.sub a b&&Ty.subs aa bs
 |_,_=>false
end
def QT:Value->Option (Ty×D)
 |.int k n=>if k.min<=n/\n<=k.max then some (.int k,.v (.int k n)) else Option.none
 |.bool b=>some (.bool,.v (.bool b))
 |.string s=>if s.size<=maxLen then some (.str,.v (.string s)) else Option.none
 |.slice .none 0 0=>some (.nils .bool,.list [])
 |_=>Option.none
def sH:Ty->Option (Ty×D)
 |.int k=>some (.int k,.v (.int k 0))
 |.bool=>some (.bool,.v (.bool false))
 |.str=>some (.str,.v (.string ByteArray.empty))
 |.slice e=>some (.nils e,.list [])
 |.map k e=>some (.map k e,.map [])
 |.fn aa r=>some (.fn aa r,.v .nilFunc)
 |_=>Option.none
def qK:Ty->Option (Ty×D)
 |.agg ts=>(ts.mapM sH).map λzs=>(.agg (zs.map (·.1)),.agg (zs.map (·.2)))
 |t=>sH t
def Ae:Ty->Value->Bool
 |.int k,.int k' n=>k==k'&&n==0
 |.bool,.bool b=> !b
 |.str,.string s=>s.size==0
 |.slice _,.slice .none 0 0=>true
 |.map ..,.map .none=>true
 |.fn ..,.nilFunc=>true
 |_,_=>false
def DK:List Ty->List Value->Bool
 |[],[]=>true
 |t::ts,v::vs=>Ae t v&&DK ts vs
 |_,_=>false
def kf:Ty->Value->Bool
 |.agg ts,.agg vs=>DK ts vs.toList
 |.agg _,_=>false
 |t,v=>Ae t v
def OF (a b:List (Nat×Bool)):Bool:=a.all λg=>b.any λh=>Nat.beq g.1 h.1&&(g.2==h.2)
def nC (S:St)(gs:List (Nat×Bool))(t:Nat):Sh:=
 match S.r t with
 |.opt bM s=>bif OF bM gs then s else .none
 |s=>s
def yh (S:St)(b:PE):List Sh->Nat->Option (List Ty×List PE)
 |[],_=>some ([],[])
 |s::r,i=>
  (yh S b r (i+1)).bind λx=>
   match s with
   |.dat t=>bif t.one then some (t::x.1,.cell b i::x.2) else Option.none
   |.obj j' ver=>
    bif Nat.beq ver (S.ver j') then
      match S.o j' with
      |.fz t=>some (t::x.1,.o j'::x.2)
      |_=>Option.none
    else Option.none
   |_=>Option.none
def use (C:Ctx)(S:St)(gs:List (Nat×Bool)):Operand->Option (Ty×PE)
 |.tmp t=>
  match nC S gs t with
  |.dat ty=>some (ty,.r t)
  |.obj j ver=>
   bif Nat.beq ver (S.ver j) then
        match S.o j with
        |.fz ty=>some (ty,.o j)
        |_=>Option.none
   else Option.none
  |.ptr j ver off=>
   bif Nat.beq ver (S.ver j)&&Nat.beq off 0 then
        match S.o j with
        |.fbox ty=>some (.ref ty,.ref (.o j))
        |_=>Option.none
   else Option.none
  |.agg l=>(yh S (.r t) (l.map AgC.sh) 0).map λx=>(.agg x.1,.mk x.2)
  |_=>Option.none
 |.const v=>(QT v).map λx=>(x.1,.con x.2)
 |.func f=>match C.cap f with
  |some ⟨[],aa,r⟩=>some (.fn aa r,.con (.clo f []))
  |_=>Option.none
 |.global g=>(C.glob g).map λx=>(.ref x.1,.con (.ref x.2))
def view (C:Ctx)(S:St)(gs:List (Nat×Bool))(x:Operand):Option (Ty×PE):=
 match use C S gs x with
 |some r=>some r
 |Option.none=>
  match x with
  |.tmp t=>
   match nC S gs t with
   |.obj j ver=>
    bif Nat.beq ver (S.ver j) then
          match S.o j with
          |.row _ e=>some (.slice e.rol,.o j)
          |.mp k e=>some (.map k e,.o j)
          |_=>Option.none
    else Option.none
   |_=>Option.none
  |_=>Option.none
abbrev jM:=Option (Sh×List PI)
def Jl:BinOp->Bool
 |.add|.sub|.mul|.quo|.rem|.and|.or|.xor|.andNot=>true
 |_=>false
def BD:BinOp->Bool
 |.eql|.neq|.lss|.leq|.gtr|.geq=>true
 |_=>false
def sR (gs:List (Nat×Bool))(e:PE):PI:=.chk (match gs with|[]=>e|_=>.imp gs e)
def oU:Int:=4294967296
def zf:Nat:=32768
def TE (n:PE):PE:=.an (.ci .geq n (.con (.int 0))) (.ci .leq n (.con (.int oU)))
def vq (inf:TypeInfo)(t:Ty):Bool:=
 match inf.zero with
 |some v=>kf t v
 |Option.none=>false
def sU (P:Program)(T:TypeId)(e:Ty):Bool:=
 match P.info? T with
 |some i=>Nat.beq i.size e.size&&Nat.ble i.bytes zf&&Nat.ble 1 e.size&&vq i e
 |Option.none=>false
def ub (P:Program)(T:TypeId)(e:Ty):Bool:=
 match P.info? T with
 |some i=>Nat.beq i.size e.size
 |Option.none=>false
def rP (P:Program)(T:TypeId):Option Bool:=
 match P.underlying T with
 |some (.struct _)=>some true
 |some (.array ..)=>some true
 |some _=>some false
 |Option.none=>Option.none
def Tt (P:Program)(T:TypeId):Bool:=
 match P.underlying T with
 |some .bool=>true
 |_=>false
def gL (S:St)(gs:List (Nat×Bool)):Operand->Sh
 |.tmp t=>nC S gs t
 |_=>.none
def sB:Operand->PE
 |.tmp t=>.r t
 |_=>.con .none
def ZT (C:Ctx)(S:St)(gs:List (Nat×Bool)):Option Operand->Option (Ty×PE)
 |Option.none=>some (Ty.int .i64,PE.con (.int 0))
 |some l=>use C S gs l
def ZS (C:Ctx)(S:St)(gs:List (Nat×Bool))(e:PE):Option Operand->Option (Ty×PE)
 |Option.none=>some (Ty.int .i64,PE.llen e)
 |some l=>use C S gs l
def zt (C:Ctx)(S:St)(gs:List (Nat×Bool))(dst:Nat)(x:Operand):jM:=
 match use C S gs x with
 |some a=>some (.dat a.1,[.setR dst a.2])
 |Option.none=>
  match x with
  |.tmp t=>
   match nC S gs t with
   |.none=>Option.none
   |.opt ..=>Option.none
   |s=>some (s,[.setR dst (.r t)])
  |_=>Option.none
def U0 (C:Ctx)(S:St)(gs:List (Nat×Bool))(dst:Nat)(c x y:Operand):jM:=
 match c with
 |.tmp t=>
  match nC S gs t with
  |.dat .bool=>
   (use C S ((t,true)::gs) x).bind λa=>(use C S ((t,false)::gs) y).bind λb=>
     bif Ty.beq a.1 b.1 then some (.dat a.1,[.setR dst (.pick (.r t) a.2 b.2)]) else Option.none
  |_=>Option.none
 |_=>Option.none
def nm (P:Program)(K:TypeId):Ty->Bool
 |.int _=>match P.underlying K with|some (.int _)=>true|_=>false
 |.str=>match P.underlying K with|some .string=>true|_=>false
 |.bool=>match P.underlying K with|some .bool=>true|_=>false
 |_=>false
def Cy (P:Program)(K:TypeId):Ty->Bool
 |.agg [.int _,.int _]=>
  match P.underlying K with
  |some (.array n e)=>Nat.beq n 2&&(match P.underlying e with|some (.int _)=>true|_=>false)&&P.plainKey e&&(match P.info? e with|some _=>Nat.beq (P.cellsOf e) 1|none=>false)
  |_=>false
 |_=>false
def wG (P:Program)(K:TypeId)(t:Ty):Bool:=nm P K t||Cy P K t
def yu:Ty->PE->PE->Option PE
 |.int _,x,y=>some (.ci .eql x y)
 |.bool,x,y=>some (.cb .eql x y)
 |.str,x,y=>some (.cs .eql x y)
 |_,_,_=>Option.none
def yr (P:Program)(x y:PE)(b:Nat):List Field->Nat->List Ty->Option PE
 |[],_,[]=>some (.con (.v (.bool true)))
 |f::fs,i,t::ts=>
  bif (f.name != "_")&&Nat.beq f.offset i&&nm P f.type t&&P.plainKey f.type then
   (yu t (.cell x (b+i)) (.cell y (b+i))).bind λe=>(yr P x y b fs (i+1) ts).map λr=>.an e r
  else Option.none
 |_,_,_=>Option.none
def aem (P:Program)(f:Field)(i:Nat):Option Nat:=
 match P.underlying f.type with
 |some (.struct _)=>bif (f.name != "_")&&Nat.beq f.offset i&& !P.stoodInHeld f.type then some (P.cellsOf f.type) else none
 |_=>none
def yt (P:Program)(x y:PE):List Field->Nat->List Ty->Option PE
 |[],_,[]=>some (.con (.v (.bool true)))
 |f::fs,i,ts=>
  match aem P f i with
  |some n=>bif Nat.ble n ts.length then(yr P x y i (P.fieldsOf f.type).toList 0 (ts.take n)).bind λe=>(yt P x y fs (i+n) (ts.drop n)).map λr=>.an e r else Option.none
  |none=>
   match ts with
   |t::ts=>
    bif (f.name != "_")&&Nat.beq f.offset i&&nm P f.type t&&P.plainKey f.type then
     (yu t (.cell x i) (.cell y i)).bind λe=>(yt P x y fs (i+1) ts).map λr=>.an e r
    else Option.none
   |[]=>Option.none
 |[],_,_::_=>Option.none
def Rf (P:Program)(T:TypeId):Bool:=(match P.underlying T with|some (.struct _)=>true|_=>false)&& !P.stoodInHeld T&& !P.eqGuardType P.depth T
def UN (C:Ctx)(S:St)(gs:List (Nat×Bool))(dst:Nat)(op:BinOp)(T:TypeId)(x y:Operand):jM:=
 (use C S gs x).bind λa=>(use C S gs y).bind λb=>
    match a.1,b.1 with
    |.int k,.int k'=>
     bif op==.shl||op==.shr then some (.dat (.int k),[sR gs (.ci .geq b.2 (.con (.int 0))),.setR dst (.ai op k a.2 b.2)])
     else bif k==k' then
      bif op==.quo||op==.rem then some (.dat (.int k),[sR gs (.ci .neq b.2 (.con (.int 0))),.setR dst (.ai op k a.2 b.2)])
      else bif Jl op then some (.dat (.int k),[.setR dst (.ai op k a.2 b.2)])
      else bif BD op then some (.dat .bool,[.setR dst (.ci op a.2 b.2)])
      else Option.none
     else Option.none
    |.bool,.bool=>bif (op==.eql||op==.neq)&&Tt C.P T then some (.dat .bool,[.setR dst (.cb op a.2 b.2)]) else Option.none
    |.str,.str=>bif BD op then some (.dat .bool,[.setR dst (.cs op a.2 b.2)]) else Option.none
    |.nsl _,.nils _=>(match C.P.underlying T with|some (.slice _)=>bif op==.eql||op==.neq then some (.dat .bool,[.setR dst (.ci op (.llen a.2) (.con (.int 0)))]) else Option.none|_=>Option.none)
    |.agg ts,.agg us=>bif (op==.eql||op==.neq)&&Ty.beqs ts us&&Rf C.P T then(yt C.P a.2 b.2 (C.P.fieldsOf T).toList 0 ts).map λe=>(.dat .bool,[.setR dst (bif op==.eql then e else .nt e)]) else Option.none
    |_,_=>Option.none
def U2 (C:Ctx)(S:St)(gs:List (Nat×Bool))(dst:Nat)(op:UnOp)(x:Operand):jM:=
 (use C S gs x).bind λa=>
    match op,a.1 with
    |.neg,.int k=>some (.dat (.int k),[.setR dst (.ai .sub k (.con (.v (.int k 0))) a.2)])
    |.not,.bool=>some (.dat .bool,[.setR dst (.nt a.2)])
    |_,_=>Option.none
def UP (C:Ctx)(S:St)(gs:List (Nat×Bool))(dst:Nat)(s d:TypeId)(x:Operand):jM:=
 (use C S gs x).bind λa=>
    match C.P.underlying s,C.P.underlying d,a.1 with
    |some (.int _),some (.int k),.int _=>some (.dat (.int k),[.setR dst (.conv k a.2)])
    |some .string,some .string,.str=>some (.dat .str,[.setR dst a.2])
    |_,_,_=>Option.none
def UX (C:Ctx)(S:St)(gs:List (Nat×Bool))(dst:Nat)(T:TypeId)(x:Operand):jM:=
 (view C S gs x).bind λa=>
    match a.1,C.P.underlying T with
    |.slice _,some (.slice _)=>some (.dat (.int .i64),[.setR dst (.llen a.2)])
    |.nils _,some (.slice _)=>some (.dat (.int .i64),[.setR dst (.llen a.2)])
    |.str,some .string=>some (.dat (.int .i64),[.setR dst (.slen a.2)])
    |.map ..,some (.map ..)=>some (.dat (.int .i64),[.setR dst (.mlen a.2)])
    |_,_=>Option.none
def M4 (C:Ctx)(S:St)(gs:List (Nat×Bool))(dst:Nat)(mx:Bool)(x y:Operand):jM:=
 (use C S gs x).bind λa=>(use C S gs y).bind λb=>
    match a.1,b.1 with
    |.int k,.int k'=>bif k==k' then some (.dat (.int k),[.setR dst (bif mx then .mx a.2 b.2 else .mn a.2 b.2)]) else Option.none
    |_,_=>Option.none
def wR (ag:Bool)(n:Nat)(ts:List Ty)(off:Nat):Option Ty:=
 bif Nat.ble (off+n) ts.length then
    bif ag then some (.agg ((ts.drop off).take n))
    else bif Nat.beq n 1 then ts[off]? else Option.none
 else Option.none
def CS (ag:Bool)(n:Nat)(e:PE)(off:Nat):PE:=bif ag then .sub e off n else .cell e off
def abE:List Sh->Option (List Ty)
 |[]=>some []
 |.dat t::r=>(abE r).map (t::·)
 |_=>Option.none
def PG (C:Ctx)(j:Nat):Bool:=C.fr.any (Nat.beq (1000000+j))
def D4 (S:St):List Sh->Option (List AgC)
 |[]=>some []
 |s::r=>
  (D4 S r).bind λx=>
   match s with
   |.dat t=>bif t.one then some (.dat t::x) else Option.none
   |.obj j ver=>bif Nat.beq ver (S.ver j) then some (.obj j ver::x) else Option.none
   |_=>Option.none
def PJ (j off n len:Nat):PE:=bif Nat.beq off 0&&Nat.beq n len then .o j else .sub (.o j) off n
def CO (C:Ctx)(S:St)(gs:List (Nat×Bool))(dst:Nat)(T:TypeId)(x:Operand):jM:=
 match C.P.info? T,rP C.P T with
 |some inf,some ag=>
  match gL S gs x with
  |.ptr j ver off=>
   bif Nat.beq ver (S.ver j) then
    match S.o j with
    |.box _ shs=>
     bif ag then
          bif Nat.ble (off+inf.size) shs.length then
           match(bif PG C j then D4 S ((shs.drop off).take inf.size) else Option.none) with
           |some l=>some (.agg l,[.setR dst (PJ j off inf.size shs.length)])
           |Option.none=>(yh S (.o j) ((shs.drop off).take inf.size) off).map λx=>(.dat (.agg x.1),[.setR dst (.mk x.2)])
          else Option.none
     else
          match shs[off]? with
          |some (.dat ty)=>bif ty.one then some (.dat ty,[.setR dst (.cell (.o j) off)]) else Option.none
          |some (.obj j' nJ)=>some (.obj j' nJ,[.setR dst (.con .none)])
          |_=>Option.none
    |.fbox (.agg ts)=>(wR ag inf.size ts off).map λty=>(.dat ty,[.setR dst (CS ag inf.size (.o j) off)])
    |.fbox ty=>bif !ag&&ty.one&&Nat.beq off 0 then some (.dat ty,[.setR dst (.o j)]) else Option.none
    |_=>Option.none
   else Option.none
  |.eptr j ver size off=>
   bif Nat.beq ver (S.ver j) then
    match S.o j with
    |.row _ (.agg ts)=>
     bif Nat.beq size ts.length then(wR ag inf.size ts off).map λty=>(.dat ty,[.setR dst (CS ag inf.size (.nth (.o j) (sB x)) off)])
     else Option.none
    |.row _ e=>bif !ag&&e.one&&Nat.beq off 0&&Nat.beq size 1 then some (.dat e,[.setR dst (.nth (.o j) (sB x))]) else Option.none
    |_=>Option.none
   else Option.none
  |_=>
   (use C S gs x).bind λa=>
    match a.1 with
    |.ref ty=>bif Nat.beq inf.size ty.size&&(ag==ty.rowT) then some (.dat ty,[.setR dst (.deref a.2)]) else Option.none
    |_=>Option.none
 |_,_=>Option.none
def E5 (P:Program)(T:TypeId)(i:Nat):Option Field:=
 match P.underlying T with
 |some (.struct fs)=>fs[i]?
 |_=>Option.none
def US (C:Ctx)(S:St)(gs:List (Nat×Bool))(dst:Nat)(T:TypeId)(x:Operand)(i:Nat):jM:=
 (E5 C.P T i).bind λf=>
    match C.P.info? f.type,rP C.P f.type with
    |some inf,some ag=>
     bif Nat.beq inf.size 0 then Option.none else
     match gL S gs x with
     |.eptr j ver size off=>bif Nat.beq ver (S.ver j) then some (.eptr j ver size (off+f.offset),[.setR dst (sB x)]) else Option.none
     |s=>
      match use C S gs x with
      |some (.ref (.agg ts),e)=>(wR ag inf.size ts f.offset).map λty=>(.dat (.ref ty),[.setR dst (.ref (CS ag inf.size (.deref e) f.offset))])
      |_=>
       match s with
       |.ptr j ver off=>bif Nat.beq ver (S.ver j) then some (.ptr j ver (off+f.offset),[.setR dst (.con .none)]) else Option.none
       |_=>Option.none
    |_,_=>Option.none
def UR (C:Ctx)(S:St)(gs:List (Nat×Bool))(dst:Nat)(T:TypeId)(x:Operand)(i:Nat):jM:=
 (E5 C.P T i).bind λf=>
    match C.P.info? f.type,rP C.P f.type with
    |some inf,some ag=>
     match use C S gs x with
     |some (.agg ts,e)=>(wR ag inf.size ts f.offset).map λty=>(.dat ty,[.setR dst (CS ag inf.size e f.offset)])
     |_=>Option.none
    |_,_=>Option.none
def UW (C:Ctx)(S:St)(gs:List (Nat×Bool))(dst:Nat)(T:TypeId)(x i:Operand):jM:=
 match C.P.underlying T with
 |some (.slice e)=>
  (use C S gs i).bind λn=>
    match n.1 with
    |.int _=>
     match use C S gs x with
     |some (.slice t,pe)=>bif ub C.P e t then some (.dat (.ref t.unf),[sR gs (.idx pe n.2),.setR dst (.ref (.nth pe n.2))]) else Option.none
     |some _=>Option.none
     |Option.none=>
      match gL S gs x with
      |.obj j ver=>
       bif Nat.beq ver (S.ver j) then
        match S.o j with
        |.row _ t=>bif ub C.P e t then some (.eptr j ver t.size 0,[sR gs (.idx (.o j) n.2),.setR dst n.2]) else Option.none
        |_=>Option.none
       else Option.none
      |_=>Option.none
    |_=>Option.none
 |_=>Option.none
def UU (C:Ctx)(S:St)(gs:List (Nat×Bool))(dst:Nat)(T:TypeId)(x i:Operand):jM:=
 match C.P.underlying T with
 |some .string=>
  (use C S gs i).bind λn=>(use C S gs x).bind λa=>
    match n.1,a.1 with
    |.int _,.str=>some (.dat (.int .u8),[sR gs (.sok a.2 n.2),.setR dst (.sidx a.2 n.2)])
    |_,_=>Option.none
 |_=>Option.none
def UQ (C:Ctx)(S:St)(gs:List (Nat×Bool))(dst:Nat)(x:Operand)(i:Nat):jM:=
 (use C S gs x).bind λa=>
    match a.1 with
    |.tup ts=>(ts[i]?).map λt=>(.dat t,[.setR dst (.tget a.2 i)])
    |_=>Option.none
def UY (C:Ctx)(S:St)(gs:List (Nat×Bool))(dst:Nat)(T:TypeId)(m k:Operand)(ok:Bool):jM:=
 match C.P.underlying T with
 |some (.map K E)=>
  (view C S gs m).bind λa=>(use C S gs k).bind λb=>
    match a.1 with
    |.map kt et=>
     match qK et,C.P.info? E with
     |some z,some inf=>
      bif Ty.beq b.1 kt&&wG C.P K kt&&Ty.sub z.1 et&&vq inf et then
          bif ok then some (.dat (.tup [et,.bool]),[.setR dst (.tup [.look a.2 b.2 (.con z.2),.has a.2 b.2])])
          else some (.dat et,[.setR dst (.look a.2 b.2 (.con z.2))])
      else Option.none
     |_,_=>Option.none
    |_=>Option.none
 |_=>Option.none
def aes:Operand->Bool|.global _=>true|_=>false
def U1 (C:Ctx)(S:St)(gs:List (Nat×Bool))(dst:Nat)(T:TypeId)(x:Operand)(lo hi mx:Option Operand):jM:=
 match C.P.underlying T,mx with
 |some (.slice e),Option.none=>
  (use C S gs x).bind λa=>
    match a.1 with
    |.slice t=>
     (ZT C S gs lo).bind λl=>
     (ZS C S gs a.2 hi).bind λh=>
        match l.1,h.1 with
        |.int _,.int _=>bif ub C.P e t then some (.dat (.slice t),[sR gs (.slok a.2 l.2 h.2),.setR dst (.slc a.2 l.2 h.2)]) else Option.none
        |_,_=>Option.none
    |_=>Option.none
 |some (.array n e),Option.none=>
  match lo,hi with
  |Option.none,Option.none=>
   (use C S gs x).bind λa=>
     match a.1 with
     |.ref (.agg (t::ts))=>bif Nat.beq n (ts.length+1)&&ts.all (Ty.beq t)&&t.one&&ub C.P e t&&Nat.ble n maxLen&&(aes x|| !Ty.beq t (.int .i64)) then some (.dat (.slice t),[.setR dst (.lst ((List.range n).map λi=>.cell (.deref a.2) i))]) else Option.none
     |_=>Option.none
  |_,_=>Option.none
 |_,_=>Option.none
def qJ (C:Ctx)(S:St)(gs:List (Nat×Bool)):List Operand->Option (List Ty×List PE)
 |[]=>some ([],[])
 |x::xs=>(use C S gs x).bind λa=>(qJ C S gs xs).map λr=>(a.1::r.1,a.2::r.2)
def UT (C:Ctx)(S:St)(gs:List (Nat×Bool))(dst:Nat)(fn:Fn)(first caps:Array Operand):jM:=
 match fn,first.toList with
 |.func f,[]=>
  (C.cap f).bind λcs=>(qJ C S gs caps.toList).bind λa=>bif Ty.subs a.1 cs.caps then some (.dat (.fn cs.args cs.res),[.setR dst (.clo f a.2)]) else Option.none
 |_,_=>Option.none
def rowOf (ag:Bool)(cs:List Value):Value:=if ag then .agg cs.toArray else cs.getD 0 undef
def Tv:Ob->Bool
 |.row ..=>true
 |_=>false
def CR (C:Ctx)(S:St)(gs:List (Nat×Bool))(ft:Ty)(x:Operand):Option (List AgC×PE):=
 match use C S gs x with
 |some a=>bif Ty.sub a.1 ft&&(a.1.rowT||a.1.one) then some (a.1.flat.map .dat,a.2) else Option.none
 |Option.none=>
  match gL S gs x with
  |.obj j ver=>bif Nat.beq ver (S.ver j)&&Tv (S.o j)&&Nat.beq ft.size 1 then some ([.obj j ver],.con (.bool false)) else Option.none
  |_=>Option.none
def aer:AgC->Bool
 |.dat _=>true
 |_=>false
def AgC.ty:AgC->Ty
 |.dat t=>t
 |_=>.bool
def nV (C:Ctx)(S:St)(gs:List (Nat×Bool))(zs:List Value)(parts:List (Nat×Operand)):List Field->Nat->Nat->Option (List AgC×List PE)
 |[],_,off=>bif Nat.beq off zs.length then some ([],[]) else Option.none
 |f::fs,i,off=>
  match C.P.info? f.type,qI C.P f.type with
  |some inf,some ft=>
   bif Nat.beq f.offset off&&Nat.beq inf.size ft.size then
    (nV C S gs zs parts fs (i+1) (off+inf.size)).bind λr=>
       match parts.find? λp=>Nat.beq p.1 i with
       |some p=>(CR C S gs ft p.2).map λa=>(a.1++r.1,a.2::r.2)
       |Option.none=>bif kf ft (rowOf ft.rowT ((zs.drop off).take inf.size)) then(qK ft).map λz=>(z.1.flat.map .dat++r.1,.con z.2::r.2) else Option.none
   else Option.none
  |_,_=>Option.none
def hZ:List Nat->Bool
 |[]=>true
 |a::r=> !(r.any (Nat.beq a))&&hZ r
def UO (C:Ctx)(S:St)(gs:List (Nat×Bool))(dst:Nat)(T:TypeId)(parts:List (Nat×Operand)):jM:=
 match C.P.underlying T,C.P.info? T with
 |some (.struct fs),some inf=>
  match inf.zero with
  |some (.agg zs)=>
   bif hZ (parts.map (·.1))&&parts.all (λp=>Nat.blt p.1 fs.size) then
    (nV C S gs zs.toList parts fs.toList 0 0).map λr=>(bif r.1.all aer then .dat (.agg (r.1.map AgC.ty)) else .agg r.1,[.setR dst (.mk r.2)])
   else Option.none
  |_=>Option.none
 |some (.array n e),some inf=>
  match inf.zero,C.P.info? e with
  |some (.agg zs),some ie=>
   match parts with
   |[(0,x),(1,y)]=>
    (use C S gs x).bind λa=>(use C S gs y).bind λb=>
      match a.1,b.1 with
      |.int _,.int _=>bif Nat.beq n 2&&Nat.beq zs.size 2&&Nat.beq ie.size 1 then some (.dat (.agg [a.1,b.1]),[.setR dst (.mk [a.2,b.2])]) else Option.none
      |_,_=>Option.none
   |_=>Option.none
  |_,_=>Option.none
 |_,_=>Option.none
def UZ (C:Ctx)(S:St)(gs:List (Nat×Bool))(dst:Nat)(x:Operand):jM:=
 match use C S gs x with
 |some (.ref t,e)=>some (.dat (.ref t),[.setR dst e])
 |_=>
  match x with
  |.tmp t=>
   match nC S gs t with
   |.ptr j ver off=>bif Nat.beq ver (S.ver j) then some (.ptr j ver off,[.setR dst (.con .none)]) else Option.none
   |.eptr j ver sz off=>bif Nat.beq ver (S.ver j) then some (.eptr j ver sz off,[.setR dst (.r t)]) else Option.none
   |_=>Option.none
  |_=>Option.none
def M5 (C:Ctx)(S:St)(gs:List (Nat×Bool))(dst:Nat):Op->jM
 |.move x=>zt C S gs dst x
 |.pick c x y=>U0 C S gs dst c x y
 |.binOp op T x y _=>UN C S gs dst op T x y
 |.unOp op _ x=>U2 C S gs dst op x
 |.convert s d x=>UP C S gs dst s d x
 |.load T x=>CO C S gs dst T x
 |.fieldAddr T x i=>US C S gs dst T x i
 |.field T x i=>UR C S gs dst T x i
 |.indexAddr T x i=>UW C S gs dst T x i
 |.index T x i=>UU C S gs dst T x i
 |.extract x i=>UQ C S gs dst x i
 |.lookup T m k ok=>UY C S gs dst T m k ok
 |.slice T x lo hi mx=>U1 C S gs dst T x lo hi mx
 |.makeFunc f a b=>UT C S gs dst f a b
 |.build T ps=>UO C S gs dst T ps.toList
 |.nilCheck x=>UZ C S gs dst x
 |.makeInterface _ _=>some (.dat .bool,[sR gs (.nt (.con (.bool true))),.setR dst (.con .none)])
 |.call c=>
  match c.callee,c.args.toList,c.argTypes.toList with
  |.builtin .len,[x],[T]=>UX C S gs dst T x
  |.builtin .min,[x,y],_=>M4 C S gs dst false x y
  |.builtin .max,[x,y],_=>M4 C S gs dst true x y
  |_,_,_=>Option.none
 |_=>Option.none
def yg:List (Nat×Nat)->List (Nat×Nat)->Bool
 |[],[]=>true
 |x::a,y::b=>Nat.beq x.1 y.1&&Nat.beq x.2 y.2&&yg a b
 |_,_=>false
def QD:∀a b,yg a b=true->a=b
 |[],[],_=>rfl
 |[],_::_,h=>by simp[yg] at h
 |_::_,[],h=>by simp[yg] at h
 |(x,u)::a,(y,v)::b,h=>by
  simp only[yg,ao] at h;rw[ay h.1.1,ay h.1.2,QD a b h.2]
def qY:List AgC->List AgC->Bool
 |[],[]=>true
 |.dat t::a,.dat u::b=>Ty.beq t u&&qY a b
 |.obj j v::a,.obj k u::b=>Nat.beq j k&&Nat.beq v u&&qY a b
 |_,_=>false
def PH:∀a b,qY a b=true->a=b
 |[],[],_=>rfl
 |.dat t::a,.dat u::b,h=>by
  simp only[qY,ao] at h;rw[Ty.beq_eq _ _ h.1,PH a b h.2]
 |.obj j v::a,.obj k u::b,h=>by
  simp only[qY,ao] at h;rw[ay h.1.1,ay h.1.2,PH a b h.2]
 |[],_::_,h=>by simp[qY] at h
 |.dat _::_,[],h=>by simp[qY] at h
 |.obj ..::_,[],h=>by simp[qY] at h
 |.dat _::_,.obj ..::_,h=>by simp[qY] at h
 |.obj ..::_,.dat _::_,h=>by simp[qY] at h
def uJ:List (Nat×Bool)->List (Nat×Bool)->Bool
 |[],[]=>true
 |(a,x)::aa,(b,y)::bs=>Nat.beq a b&&(x==y)&&uJ aa bs
 |_,_=>false
def Sh.beq:Sh->Sh->Bool
 |.none,.none=>true
 |.dat a,.dat b=>Ty.beq a b
 |.obj j v,.obj k u=>Nat.beq j k&&Nat.beq v u
 |.ptr j v o,.ptr k u p=>Nat.beq j k&&Nat.beq v u&&Nat.beq o p
 |.eptr j v s o,.eptr k u t p=>Nat.beq j k&&Nat.beq v u&&Nat.beq s t&&Nat.beq o p
 |.opt gs s,.opt hs t=>uJ gs hs&&Sh.beq s t
 |.yv,.yv=>true
 |.fclo f a,.fclo g b=>Nat.beq f g&&yg a b
 |.agg a,.agg b=>qY a b
 |_,_=>false
def zW:List Sh->List Sh->Bool
 |[],[]=>true
 |a::aa,b::bs=>Sh.beq a b&&zW aa bs
 |_,_=>false
def Ob.beq:Ob->Ob->Bool
 |.dead,.dead=>true
 |.fz a,.fz b=>Ty.beq a b
 |.fbox a,.fbox b=>Ty.beq a b
 |.box x a,.box y b=>(x==y)&&zW a b
 |.row T a,.row U b=>Nat.beq T U&&Ty.beq a b
 |.mp a b,.mp c d=>Ty.beq a c&&Ty.beq b d
 |.it a b,.it c d=>Ty.beq a c&&Ty.beq b d
 |.tr,.tr=>true
 |_,_=>false
def CL:List Ob->List Ob->Bool
 |[],[]=>true
 |a::aa,b::bs=>Ob.beq a b&&CL aa bs
 |_,_=>false
def Fh:∀a b,uJ a b=true->a=b
 |[],[],_=>rfl
 |(a,x)::aa,(b,y)::bs,h=>by
  simp only[uJ,ao,beq_iff_eq] at h;rw[ay h.1.1,h.1.2,Fh aa bs h.2]
 |[],_::_,h=>by simp[uJ] at h
 |(_,_)::_,[],h=>by simp[uJ] at h
def Sh.beq_eq:∀a b:Sh,Sh.beq a b=true->a=b:=by
 intro a
 induction a with
 |opt gs s ih=>
  intro b h;cases b<;>simp only[Sh.beq,ao] at h<;>try (cases h;done)
  rw[Fh _ _ h.1,ih _ h.2]
 |none=>intro b h;cases b<;>simp[Sh.beq] at h;rfl
 |yv=>intro b h;cases b<;>simp[Sh.beq] at h;rfl
 |fclo f a=>
  intro b h;cases b<;>simp only[Sh.beq,ao] at h<;>try (cases h;done)
  rw[ay h.1,QD _ _ h.2]
 |dat t=>intro b h;cases b<;>simp only[Sh.beq] at h<;>try (cases h;done)
         rw[Ty.beq_eq _ _ h]
 |agg l=>intro b h;cases b<;>simp only[Sh.beq] at h<;>try (cases h;done)
         rw[PH _ _ h]
 |obj j v=>
  intro b h;cases b<;>simp only[Sh.beq,ao] at h<;>try (cases h;done)
  rw[ay h.1,ay h.2]
 |ptr j v o=>
  intro b h;cases b<;>simp only[Sh.beq,ao] at h<;>try (cases h;done)
  rw[ay h.1.1,ay h.1.2,ay h.2]
 |eptr j v o=>
  intro b h;cases b<;>simp only[Sh.beq,ao] at h<;>try (cases h;done)
  rw[ay h.1.1.1,ay h.1.1.2,ay h.1.2,ay h.2]
def WZ:∀a b:List Sh,zW a b=true->a=b
 |[],[],_=>rfl
 |a::aa,b::bs,h=>by
  simp only[zW,ao] at h;rw[Sh.beq_eq _ _ h.1,WZ aa bs h.2]
 |[],_::_,h=>by simp[zW] at h
 |_::_,[],h=>by simp[zW] at h
def Ob.beq_eq:∀a b:Ob,Ob.beq a b=true->a=b:=by
 intro a b h;cases a<;>cases b<;>simp only[Ob.beq,ao,beq_iff_eq] at h<;>try (cases h;done)
 .rfl
 .rw[Ty.beq_eq _ _ h]
 .rw[Ty.beq_eq _ _ h]
 .rw[h.1,WZ _ _ h.2]
 .rw[ay h.1,Ty.beq_eq _ _ h.2]
 .rw[Ty.beq_eq _ _ h.1,Ty.beq_eq _ _ h.2]
 .rw[Ty.beq_eq _ _ h.1,Ty.beq_eq _ _ h.2]
 .rfl
def afM:∀a b:List Ob,CL a b=true->a=b
 |[],[],_=>rfl
 |a::aa,b::bs,h=>by
  simp only[CL,ao] at h;rw[Ob.beq_eq _ _ h.1,afM aa bs h.2]
 |[],_::_,h=>by simp[CL] at h
 |_::_,[],h=>by simp[CL] at h
def isNone:Sh->Bool
 |.none=>true
 |_=>false
def qh:Ob->Bool
 |.dead=>true
 |_=>false
end Cx
namespace Cx
open Go Go.RowKit
section
variable (C:Ctx) (S:St) (O:Env) (V:Im) (own:Nat->Option Nat) (hv:Nat->Value)
def nM:AgC->Value->D->Prop
 |.dat t,v,d=>t.one=true/\Rep C.cap V t v d
 |.obj j ver,v,_=>ver<=S.ver j/\(ver=S.ver j->v=hv j)
def aG:Sh->Value->D->Prop
 |.none,_,_=>True
 |.dat t,v,d=>Rep C.cap V t v d
 |.obj j ver,v,_=>ver<=S.ver j/\(ver=S.ver j->v=hv j)
 |.ptr j ver off,v,_=>ver<=S.ver j/\(ver=S.ver j->∃k,hv j=.pointer (some ⟨k,0,none⟩)/\v=.pointer (some ⟨k,off,none⟩))
 |.eptr j ver size off,v,d=>ver<=S.ver j/\(ver=S.ver j->∃(k n c:Nat) (ik:IntKind) (i:Nat),hv j=.slice (some ⟨k,0,none⟩) n c/\d=.v (.int ik i)/\i<n/\v=.pointer (some ⟨k,i*size+off,none⟩))
 |.yv,v,_=>v=C.yv
 |.fclo f caps,v,_=>∃vs:List Value,v=.func (.func f) #[] vs.toArray/\vs.length=caps.length/\∀(i j ver:Nat),caps[i]?=some (j,ver)->ver<=S.ver j/\(ver=S.ver j->vs.getD i undef=hv j)
 |.agg l,v,d=>∃(vs:List Value) (ds:List D),v=.agg vs.toArray/\d=.agg ds/\vs.length=l.length/\ds.length=l.length/\∀(i:Nat) (c:AgC),l[i]?=some c->nM C S V hv c (vs.getD i undef) (ds.getD i .none)
 |.opt gs s,v,d=>(holds gs O=true->aG s v d)/\(holds gs O=false->v=undef)
def dh (cap:Nat->Option CSig)(V:Im)(e:Ty)(cells:List Value)(xs:List D):Prop:=
 ∃vs:Nat->Value,(∀i x,xs[i]?=some x->Rep cap V e (vs i) x)/\∀i j u,i<xs.length->(vs i).cells[j]?=some u->cells[i*e.size+j]?=some u
def nN (arr:Array MapEntry)(clock:Nat):Prop:=(∀(i:Nat) (e:MapEntry),arr[i]?=some e->e.born<clock)/\∀(i j:Nat) (e f:MapEntry),arr[i]?=some e->arr[j]?=some f->e.born=f.born->i=j
def ib (es:List (D×D))(idx:List Nat):List D:=idx.map λi=>match es[i]? with|some p=>.tup [p.1,p.2]|none=>.none
def gJ (arr:Array MapEntry)(idx:List Nat):Array Nat:=(idx.map λi=>match arr[i]? with|some e=>e.born|none=>0).toArray
def bY (w:World)(B j:Nat):Ob->Prop
 |.dead=>True
 |.tr=>True
 |.fz t=>t.one=true/\Rep C.cap V t (hv j) (O.o j)
 |.fbox t=>∃k v,hv j=.pointer (some ⟨k,0,none⟩)/\Rep C.cap V t v (O.o j)/\∀i u,v.cells[i]?=some u->V.c k i=some u
 |.box _ shs=>∃k cs T ds,hv j=.pointer (some ⟨k,0,none⟩)/\own k=some j/\w.heap[k]?=some (.cells cs T (0,0))/\cs.size=shs.length/\O.o j=.agg ds/\ds.length=shs.length/\
   ∀i s,shs[i]?=some s->(∀gs s',s≠.opt gs s')/\aG C S O V hv s (cs.getD i undef) (ds.getD i .none)
 |.row T e=>∃cells xs,O.o j=.list xs/\w.ownsRow B T e.size (hv j) xs.length cells/\dh C.cap V e cells xs/\∀k,(hv j).ownBlock=some k->own k=some j
 |.mp kt et=>∃k arr clock es,hv j=.map (some k)/\own k=some j/\w.heap[k]?=some (.map arr clock)/\O.o j=.map es/\es.length=arr.size/\(es.length<=maxLen/\nN arr clock)/\
   ∀(i:Nat) (e:MapEntry) (p:D×D),arr[i]?=some e->es[i]?=some p->Rep C.cap V kt e.key p.1/\Rep C.cap V et e.val p.2
 |.it kt et=>∃k m arr clock es idx,hv j=.pointer (some ⟨k,0,none⟩)/\own k=some j/\own m=some j/\k≠m/\w.heap[m]?=some (.map arr clock)/\w.heap[k]?=some (.mapIter (some m) clock (gJ arr idx) clock)/\
   O.o j=.tup [.list (ib es idx),.map es]/\idx.Nodup/\(∀i,i∈idx->i<arr.size)/\es.length=arr.size/\nN arr clock/\
   ∀(i:Nat) (e:MapEntry) (p:D×D),arr[i]?=some e->es[i]?=some p->Rep C.cap V kt e.key p.1/\Rep C.cap V et e.val p.2
structure Base extends Im where
 B:Nat
 /--may qH function aFv back its result here?-/
 fin:Prop
 F:D->(Nat->Prop)->(Nat->Prop)->World->Prop
 lt:∀t fx cx w,F t fx cx w->∀k,fx k->k<w.heap.size
 sub:∀t fx cx w,F t fx cx w->∀k,cx k->fx k
 keep:∀t fx cx w w',F t fx cx w->Below 0 w w'->(∀k,fx k->w'.heap[k]?=w.heap[k]?)->F t fx cx w'
instance:Coe Base Im:=⟨Base.toIm⟩
def Base.mk0 (V:Im)(B:Nat):Base:={V with B:=B,fin:=True,F:=λ_ fx cx _=>(∀k,¬fx k)/\∀k,¬cx k,lt:=λ_ _ _ _ h k hk=>absurd hk (h.1 k),sub:=λ_ _ _ _ h k hk=>absurd hk (h.2 k),keep:=λ_ _ _ _ _ h _ _=>h}
def lq (V:Im)(B:Nat):List Deferred->Prop
 |[]=>True
 |d::ds=>(∃D,d={target:=.collected D,args:=#[]}/\V.m D=some cC/\B<=D/\d∉ds)/\lq V B ds
def lq.mono {V τ:Im}(hle:V.le τ){B:Nat}:∀{ds:List Deferred},lq V B ds->lq τ B ds
 |[],_=>trivial
 |_::_,⟨⟨D,h1,h2,h3⟩,h⟩=>⟨⟨D,h1,hle.m _ _ h2,h3⟩,lq.mono hle h⟩
structure FrOK (B:Nat) (σ0:Base) (w:World) (t:D) (fx cx:Nat->Prop):Prop where
 F:σ0.F t fx cx w
 own:∀k j,own k=some j->¬fx k
 c:∀k o x,V.c k o=some x->¬cx k
 m:∀k x,V.m k=some x->¬cx k
 d:∀k,V.m k=some cC->B<=k->¬fx k
structure Inv (w0:World) (σ0:Base) (A:Nat->Prop) (a:Act) (w:World):Prop where
 defers:lq V w0.heap.size a.defers
 ok:V.ok w
 le:σ0.le V
 old:σ0.fin->∀k,σ0.m k=some cC->k<w0.heap.size
 newc:∀k o x,V.c k o=some x->σ0.c k o=some x\/w0.heap.size<=k
 newm:∀k es,V.m k=some es->σ0.m k=some es\/w0.heap.size<=k
 below:Below σ0.B w0 w
 bw:σ0.B<=w0.heap.size
 owns:∀k j,own k=some j->w0.heap.size<=k/\k<w.heap.size/\(∀o,V.c k o=none)/\V.m k=none
 regs:∀t,aG C S O V hv (S.r t) (a.tmps.getD t undef) (O.r t)
 objs:∀j,bY C S O V own hv w w0.heap.size j (S.o j)
 opts:∀t gs s,S.r t=.opt gs s->(∀g,g∈gs->A g.1)/\∀bM s',s≠.opt bM s'
 frame:∃t fx cx,FrOK V own w0.heap.size σ0 w t fx cx/\∀j,S.o j=.tr->(∃ys,C.yl=some (j,ys))/\O.o j=t
end
def Good (C:Ctx)(w0:World)(σ0:Base)(S:St)(O:Env)(A:Nat->Prop)(a:Act)(w:World):Prop:=
 ∃V own hv,Inv C S O V own hv w0 σ0 A a w
structure Compat (S:St) (hv:Nat->Value) (S':St) (hv':Nat->Value):Prop where
 ver:∀j,S.ver j<=S'.ver j
 hv:∀j,S'.ver j=S.ver j->hv' j=hv j
def Compat.refl (S:St)(hv:Nat->Value):Compat S hv S hv:=⟨λ_=>aX _,λ_ _=>rfl⟩
def Compat.setO (S:St)(hv:Nat->Value)(j:Nat)(ob:Ob):Compat S hv (S.setO j ob) hv:=⟨λ_=>aX _,λ_ _=>rfl⟩
def St.setO_o (S:St)(j:Nat)(ob:Ob):(S.setO j ob).o j=ob:=aN _ _ _
section
variable {C:Ctx} {S S':St} {O O':Env} {V V':Im} {own own':Nat->Option Nat} {hv hv':Nat->Value}
def nM.monoR (hσ:Im.leR C.cap V V')(hc:Compat S hv S' hv'):∀{c:AgC} {v:Value} {d:D},nM C S V hv c v d->nM C S' V' hv' c v d
 |.dat t,v,d,h=>⟨h.1,hσ.rep h.2⟩
 |.obj j ver,v,d,h=>by
  refine⟨gm h.1 (hc.ver j),λe=>?_⟩;have e1:S'.ver j=S.ver j:=by have:=hc.ver j;have:=h.1;omega
  rw[hc.hv j e1];exact h.2 (by omega)
def aG.monoR (hσ:Im.leR C.cap V V')(hc:Compat S hv S' hv'):∀{s:Sh} {v:Value} {d:D},(∀gs s',s=.opt gs s'->holds gs O'=holds gs O)->
 (∀gs s',s=.opt gs s'->∀bM Iu,s'≠.opt bM Iu)->aG C S O V hv s v d->aG C S' O' V' hv' s v d:=by
 intro s
 induction s with
 |none=>intros;trivial
 |yv=>intro v d _ _ h;exact h
 |fclo f caps=>
  intro v d _ _ h;obtain⟨vs,h1,h2,h3⟩:=h;refine⟨vs,h1,h2,λi j ver hi=>?_⟩;obtain⟨g1,g2⟩:=h3 i j ver hi;refine⟨gm g1 (hc.ver j),λe=>?_⟩;have e1:S'.ver j=S.ver j:=by have:=hc.ver j;omega
  rw[hc.hv j e1];exact g2 (by omega)
 |dat t=>intro v d _ _ h;exact hσ.rep h
 |agg l=>
  intro v d _ _ h;obtain⟨vs,ds,h1,h2,h3,h4,h5⟩:=h;exact⟨vs,ds,h1,h2,h3,h4,λi c hi=>(h5 i c hi).monoR hσ hc⟩
 |obj j ver=>
  intro v d _ _ h;refine⟨gm h.1 (hc.ver j),λe=>?_⟩;have e1:S'.ver j=S.ver j:=by have:=hc.ver j;have:=h.1;omega
  rw[hc.hv j e1];exact h.2 (by omega)
 |ptr j ver off=>
  intro v d _ _ h;refine⟨gm h.1 (hc.ver j),λe=>?_⟩;have e1:S'.ver j=S.ver j:=by have:=hc.ver j;have:=h.1;omega
  rw[hc.hv j e1];exact h.2 (by omega)
 |eptr j ver size off=>
  intro v d _ _ h;refine⟨gm h.1 (hc.ver j),λe=>?_⟩;have e1:S'.ver j=S.ver j:=by have:=hc.ver j;have:=h.1;omega
  rw[hc.hv j e1];exact h.2 (by omega)
 |opt gs s ih=>
  intro v d hg hn h;refine⟨λhh=>ih (λbM s' e=>absurd e (hn gs s rfl bM s')) (λbM s' e=>absurd e (hn gs s rfl bM s')) (h.1 (by rw[<-hg gs s rfl];exact hh)),λhh=>h.2 (by rw[<-hg gs s rfl];exact hh)⟩
def aG.mono (hσ:V.le V')(hc:Compat S hv S' hv'){s:Sh}{v:Value}{d:D}(h1:∀gs s',s=.opt gs s'->holds gs O'=holds gs O)
 (h2:∀gs s',s=.opt gs s'->∀bM Iu,s'≠.opt bM Iu) (h:aG C S O V hv s v d):aG C S' O' V' hv' s v d:=aG.monoR hσ.leR hc h1 h2 h
def aG.monoR' (hσ:Im.leR C.cap V V')(hc:Compat S hv S' hv'){s:Sh}{v:Value}{d:D}(hn:∀gs s',s≠.opt gs s')(h:aG C S O V hv s v d):aG C S' O' V' hv' s v d:=
 aG.monoR hσ hc (λgs s' e=>absurd e (hn gs s')) (λgs s' e=>absurd e (hn gs s')) h
def aG.mono' (hσ:V.le V')(hc:Compat S hv S' hv'){s:Sh}{v:Value}{d:D}(hn:∀gs s',s≠.opt gs s')(h:aG C S O V hv s v d):aG C S' O' V' hv' s v d:=
 aG.monoR' hσ.leR hc hn h
def dh.monoR {cap:Nat->Option CSig}(hσ:Im.leR cap V V'){e:Ty}{cells:List Value}{xs:List D}(h:dh cap V e cells xs):dh cap V' e cells xs:=by
 obtain⟨vs,h1,h2⟩:=h;exact⟨vs,λi x hx=>hσ.rep (h1 i x hx),h2⟩
def dh.mono {cap:Nat->Option CSig}(hσ:V.le V'){e:Ty}{cells:List Value}{xs:List D}(h:dh cap V e cells xs):dh cap V' e cells xs:=h.monoR hσ.leR
def bY.monoR (hσ:Im.leR C.cap V V')(hc:Compat S hv S' hv'){w w':World}{B j:Nat}{ob:Ob}(hj:hv' j=hv j)(hr:O'.o j=O.o j)
 (hk:∀k,own k=some j->own' k=some j/\w'.heap[k]?=w.heap[k]?) (h:bY C S O V own hv w B j ob):bY C S' O' V' own' hv' w' B j ob:=by
 cases ob with
 |dead=>trivial
 |tr=>trivial
 |fz t=>exact⟨h.1,by rw[hj,hr];exact hσ.rep h.2⟩
 |fbox t=>
  obtain⟨k,v,h1,h2,h3⟩:=h;exact⟨k,v,by rw[hj];exact h1,by rw[hr];exact hσ.rep h2,λi u hu=>hσ.c _ _ _ (h3 i u hu)⟩
 |box ag shs=>
  obtain⟨k,cs,T,ds,h1,h2,h3,h4,h5,h6,h7⟩:=h;refine⟨k,cs,T,ds,by rw[hj];exact h1,(hk k h2).1,by rw[(hk k h2).2];exact h3,h4,by rw[hr];exact h5,h6,λi s hs=>?_⟩;obtain⟨g1,g3⟩:=h7 i s hs;exact⟨g1,g3.monoR' hσ hc g1⟩
 |row T e=>
  obtain⟨cells,xs,h1,h2,h3,h4⟩:=h;refine⟨cells,xs,by rw[hr];exact h1,?_,h3.monoR hσ,λk hb=>(hk k (h4 k (by rw[<-hj];exact hb))).1⟩;rw[hj];refine⟨h2.1,?_⟩;rcases h2.2 with h|⟨g,cap,cur,e1,e2,e3,e4⟩
  .exact .inl h
  .exact .inr ⟨g,cap,cur,e1,e2,by rw[(hk g (h4 g (by rw[e1];rfl))).2];exact e3,e4⟩
 |mp kt et=>
  obtain⟨k,arr,clock,es,h1,h2,h3,h4,h5,hx,h6⟩:=h;refine⟨k,arr,clock,es,by rw[hj];exact h1,(hk k h2).1,by rw[(hk k h2).2];exact h3,by rw[hr];exact h4,h5,hx,λi e p he hp=>?_⟩;exact⟨hσ.rep (h6 i e p he hp).1,hσ.rep (h6 i e p he hp).2⟩
 |it kt et=>
  obtain⟨k,m,arr,clock,es,idx,h1,h2,h3,au,h4,h5,h6,h7,h8,h9,jt,uL⟩:=h;refine⟨k,m,arr,clock,es,idx,by rw[hj];exact h1,(hk k h2).1,(hk m h3).1,au,by rw[(hk m h3).2];exact h4,by rw[(hk k h2).2];exact h5,by rw[hr];exact h6,h7,h8,h9,jt,λi e p he hp=>?_⟩;exact⟨hσ.rep (uL i e p he hp).1,hσ.rep (uL i e p he hp).2⟩
def bY.mono (hσ:V.le V')(hc:Compat S hv S' hv'){w w':World}{B j:Nat}{ob:Ob}(hj:hv' j=hv j)(hr:O'.o j=O.o j)
 (hk:∀k,own k=some j->own' k=some j/\w'.heap[k]?=w.heap[k]?) (h:bY C S O V own hv w B j ob):bY C S' O' V' own' hv' w' B j ob:=h.monoR hσ.leR hc hj hr hk
end
section
variable {C:Ctx} {S:St} {O:Env} {V:Im} {own:Nat->Option Nat} {hv:Nat->Value} {w0:World} {σ0:Base} {A:Nat->Prop} {a:Act} {w:World}
def F0 {gs:List (Nat×Bool)}{O:Env}{t:Nat}{d:D}(h:∀g,g∈gs->g.1≠t):holds gs (O.setR t d)=holds gs O:=by
 unfold holds
 induction gs with
 |nil=>rfl
 |cons g gs ih=>
  simp only[sJ];rw[ih λx hx=>h x (fq _ hx)];simp[Env.setR,bB _ _ (h g (fR ..))]
def zZ (a:Act)(t u:Nat)(v:Value):(a.put (some t) v).tmps.getD u undef=if u=t/\t<a.tmps.size then v else a.tmps.getD u undef:=by
 simp only[Act.put,fe,DM];by_cases h:t=u
 .subst h;by_cases h2:t<a.tmps.size
  .simp[h2]
  .simp[h2]
 .have h':¬u=t:=λe=>h e.symm;simp[h,h']
def Inv.step (h:Inv C S O V own hv w0 σ0 A a w){S':St}{O':Env}{V':Im}{own':Nat->Option Nat}{hv':Nat->Value}{A':Nat->Prop}{a':Act}{w':World}(W:Nat->Prop)
 (hd:a'.defers=a.defers) (hσ:V.le V') (ar:V'.ok w')
 (dp:∀k o x,V'.c k o=some x->V.c k o=some x\/(w0.heap.size<=k/\((∃j,own k=some j)\/w.heap.size<=k))) (cQ:∀k es,V'.m k=some es->V.m k=some es\/(w0.heap.size<=k/\((∃j,own k=some j)\/w.heap.size<=k)))
 (hb:Below w0.heap.size w w') (hc:Compat S hv S' hv')
 (hW:∀j,¬W j->S'.o j=S.o j/\O'.o j=O.o j/\hv' j=hv j/\∀k,own k=some j->own' k=some j/\w'.heap[k]?=w.heap[k]?)
 (Lw:∀j,W j->bY C S' O' V' own' hv' w' w0.heap.size j (S'.o j))
 (bp:∀k j,own' k=some j->w0.heap.size<=k/\k<w'.heap.size/\(∀o,V'.c k o=none)/\V'.m k=none)
 (hA:∀t,A t->A' t)
 (hr:∀t,(S'.r t=S.r t/\a'.tmps.getD t undef=a.tmps.getD t undef/\O'.r t=O.r t)\/
   (aG C S' O' V' hv' (S'.r t) (a'.tmps.getD t undef) (O'.r t)/\∀gs s,S'.r t=.opt gs s->(∀g,g∈gs->A' g.1)/\∀bM s',s≠.opt bM s'))
 (hg:∀t,A t->O'.r t=O.r t) (mm:∀k,k<w.heap.size->own k=none->w'.heap[k]?=w.heap[k]?) (hof:∀k i,own' k=some i->(∃j,own k=some j)\/w.heap.size<=k) (uW:∀j,W j->S'.o j≠.tr):Inv C S' O' V' own' hv' w0 σ0 A' a' w' where
 defers:=by rw[hd];exact h.defers.mono hσ
 ok:=ar
 le:=h.le.trans hσ
 old:=h.old
 newc:=λk o x hx=>(dp k o x hx).elim (h.newc k o x) λe=>.inr e.1
 newm:=λk x hx=>(cQ k x hx).elim (h.newm k x) λe=>.inr e.1
 below:=h.below.trans (hb.mono h.bw)
 bw:=h.bw
 owns:=bp
 regs:=λt=>by
  rcases hr t with⟨h1,h2,h3⟩|h4
  .rw[h1,h2,h3];refine aG.mono hσ hc (λgs s e=>?_) (λgs s e=>(h.opts t gs s e).2) (h.regs t);unfold holds;have aK:∀g,g∈gs->O'.r g.1=O.r g.1:=λg hm=>hg _ ((h.opts t gs s e).1 g hm);clear e
   induction gs with
   |nil=>rfl
   |cons g gs ih=>simp only[sJ];rw[ih λx hx=>aK x (fq _ hx),aK g (fR ..)]
  .exact h4.1
 objs:=λj=>by
  by_cases hj:W j
  .exact Lw j hj
  .obtain⟨h1,h2,h3,h4⟩:=hW j hj;rw[h1];exact(h.objs j).mono hσ hc h3 h2 h4
 opts:=λt gs s e=>by
  rcases hr t with⟨h1,h2,h3⟩|h4
  .obtain⟨g1,g2⟩:=h.opts t gs s (by rw[<-h1];exact e);exact⟨λg hm=>hA _ (g1 g hm),g2⟩
  .exact h4.2 gs s e
 frame:=by
  obtain⟨t,fx,cx,hf,h4⟩:=h.frame;have af:=σ0.lt _ _ _ _ hf.F;have oG:∀k,(∃j,own k=some j)\/w.heap.size<=k->¬fx k:=by
   rintro k (⟨j,hj⟩|hk) LL
   .exact hf.own k j hj LL
   .have:=af k LL;omega
  refine⟨t,fx,cx,⟨σ0.keep _ _ _ _ _ hf.F (hb.mono (jK _)) (λk hk=>mm k (af k hk) ?_),λk j hj=>oG k (hof k j hj),λk o x hx=>?_,λk x hx=>?_,λk hx hB=>?_⟩,λj hj=>?_⟩
  .cases e:own k with
   |none=>rfl
   |some j=>exact absurd hk (hf.own k j e)
  .rcases dp k o x hx with e|e
   .exact hf.c k o x e
   .exact λhc=>oG k e.2 (σ0.sub _ _ _ _ hf.F k hc)
  .rcases cQ k x hx with e|e
   .exact hf.m k x e
   .exact λhc=>oG k e.2 (σ0.sub _ _ _ _ hf.F k hc)
  .rcases cQ k _ hx with e|e
   .exact hf.d k e hB
   .exact oG k e.2
  .by_cases hw:W j
   .exact absurd hj (uW j hw)
   .obtain⟨e1,e2,_⟩:=hW j hw;rw[e2];exact h4 j (by rw[<-e1];exact hj)
def Inv.setReg (h:Inv C S O V own hv w0 σ0 A a w){t:Nat}(ht:¬A t){s:Sh}{v:Value}{d:D}(hs:aG C S (O.setR t d) V hv s v d)(af:t<a.tmps.size)
 (SH:∀gs s',s=.opt gs s'->(∀g,g∈gs->A g.1)/\∀bM Iu,s'≠.opt bM Iu):
 Inv C (S.setR t s) (O.setR t d) V own hv w0 σ0 (λu=>A u\/u=t) (a.put (some t) v) w:=by
 refine h.step (λ_=>False) rfl (.refl V) h.ok (λ_ _ _ hx=>.inl hx) (λ_ _ hx=>.inl hx) (.refl _ _) ⟨λ_=>aX _,λ_ _=>rfl⟩ (λj _=>⟨rfl,rfl,rfl,λk hk=>⟨hk,rfl⟩⟩) (λj hj=>hj.elim) h.owns (λ_=>.inl) (λu=>?_) (λu hu=>?_) (λk _ _=>?_) (λk i hk=>.inl ⟨i,hk⟩) (λ_ hf=>hf.elim)
 .by_cases hu:u=t
  .subst hu;refine .inr ⟨?_,?_⟩
   .rw[zZ];simp only[St.setR,Env.setR,aN,af,and_self,if_true];refine aG.mono (S:=S) (S':=S.setR u s) (O:=O.setR u d) (O':=O.setR u d) (hv:=hv) (.refl V) ⟨λ_=>aX _,λ_ _=>rfl⟩ (λgs s' e=>?_) (λgs s' e=>(SH gs s' e).2) hs;rfl
   .intro gs s' e;simp only[St.setR,aN] at e;exact⟨λg hm=>.inl ((SH gs s' e).1 g hm),(SH gs s' e).2⟩
  .refine .inl ⟨by simp[St.setR,bB _ _ hu],?_,by simp[Env.setR,bB _ _ hu]⟩;rw[zZ];simp[hu]
 .exact bB _ _ (λe=>ht (e▸hu))
 .rfl
end
def aml {cap:Nat->Option CSig}{V:Im}{v:Value}{x:Ty×D}(h:QT v=some x):Rep cap V x.1 v x.2:=by
 unfold QT at h;split at h
 .split at h
  .rename_i hh;cases h;exact .int _ _ hh.1 hh.2
  .cases h
 .cases h;exact .bool _
 .split at h
  .rename_i hh;cases h;exact .str _ hh
  .cases h
 .cases h;exact .nils _
 .cases h
mutual
def Ty.sub_one:∀a b:Ty,Ty.sub a b=true->a.one=b.one/\a.size=b.size
 |.nils a,b,h=>by
  cases b<;>simp_all [Ty.sub,Ty.beq,Ty.one,Ty.size]
 |.nsl a,b,h=>by
  cases b<;>simp_all [Ty.sub,Ty.beq,Ty.one,Ty.size]
 |.agg a,b,h=>by
  cases b with
  |agg b=>simp only[Ty.sub] at h;exact⟨rfl,(Ty.subs_len a b h)⟩
  |_=>simp[Ty.sub,Ty.beq] at h
 |.tup a,b,h=>by
  cases b with
  |tup b=>exact⟨rfl,rfl⟩
  |_=>simp[Ty.sub,Ty.beq] at h
 |.int a,b,h=>by cases b<;>simp_all [Ty.sub,Ty.beq,Ty.one,Ty.size]
 |.bool,b,h=>by cases b<;>simp_all [Ty.sub,Ty.beq,Ty.one,Ty.size]
 |.str,b,h=>by cases b<;>simp_all [Ty.sub,Ty.beq,Ty.one,Ty.size]
 |.slice a,b,h=>by cases b<;>simp_all [Ty.sub,Ty.beq,Ty.one,Ty.size]
 |.map a c,b,h=>by cases b<;>simp_all [Ty.sub,Ty.beq,Ty.one,Ty.size]
 |.ref a,b,h=>by cases b<;>simp_all [Ty.sub,Ty.beq,Ty.one,Ty.size]
 |.fn a r,b,h=>by cases b<;>simp_all [Ty.sub,Ty.beq,Ty.one,Ty.size]
 |.trm,b,h=>by cases b<;>simp_all [Ty.sub,Ty.beq,Ty.one,Ty.size]
def Ty.subs_len:∀a b:List Ty,Ty.subs a b=true->a.length=b.length
 |[],b,h=>by cases b<;>simp_all [Ty.subs]
 |x::a,b,h=>by
  cases b with
  |nil=>simp[Ty.subs] at h
  |cons y b=>simp only[Ty.subs,ao] at h;simp[Ty.subs_len a b h.2]
end
def Ty.subs_get:∀a b:List Ty,Ty.subs a b=true->∀(i:Nat) (t:Ty),b[i]?=some t->∃s,a[i]?=some s/\Ty.sub s t=true
 |[],b,h,i,t,hi=>by cases b<;>simp_all [Ty.subs]
 |x::a,b,h,i,t,hi=>by
  cases b with
  |nil=>simp[Ty.subs] at h
  |cons y b=>
   simp only[Ty.subs,ao] at h;cases i with
   |zero=>simp only[Po,aZ] at hi ⊢;subst hi;exact⟨x,rfl,h.1⟩
   |succ i=>simp only[I0] at hi ⊢;exact Ty.subs_get a b h.2 i t hi
def Rep.sub {cap:Nat->Option CSig}{V:Im}{s:Ty}{v:Value}{d:D}(h:Rep cap V s v d):∀{t:Ty},Ty.sub s t=true->Rep cap V t v d:=by
 induction h with
 |nils e=>
  intro t ht;cases t with
  |slice b=>exact .nil b
  |nils b=>exact .nils b
  |_=>simp[Ty.sub,Ty.beq] at ht
 |nsl0 e=>
  intro t ht;cases t with
  |slice b=>exact .nil b
  |nsl b=>exact .nsl0 b
  |_=>simp[Ty.sub,Ty.beq] at ht
 |nsl e k o n c xs h hx ih=>
  intro t ht;cases t with
  |slice b=>simp only[Ty.sub] at ht;rw[<-Ty.beq_eq _ _ ht];exact h
  |nsl b=>simp only[Ty.sub,Ty.beq] at ht;rw[<-Ty.beq_eq _ _ ht];exact .nsl e k o n c xs h hx
  |_=>simp[Ty.sub,Ty.beq] at ht
 |agg ts vs ds h1 h2 h ho ih=>
  intro t ht;cases t with
  |agg us=>
   simp only[Ty.sub] at ht;have hl:=Ty.subs_len ts us ht;refine .agg us vs ds (by omega) (by omega) (λi t hi=>?_) (λi t hi=>?_)
   .obtain⟨s,hs,cA⟩:=Ty.subs_get ts us ht i t hi;exact ih i s hs cA
   .obtain⟨s,hs,cA⟩:=Ty.subs_get ts us ht i t hi;rw[<-(Ty.sub_one s t cA).1];exact ho i s hs
  |_=>simp[Ty.sub,Ty.beq] at ht
 |tup ts vs ds h1 h2 h ih=>
  intro t ht;cases t with
  |tup us=>
   simp only[Ty.sub] at ht;have hl:=Ty.subs_len ts us ht;refine .tup us vs ds (by omega) (by omega) (λi t hi=>?_);obtain⟨s,hs,cA⟩:=Ty.subs_get ts us ht i t hi;exact ih i s hs cA
  |_=>simp[Ty.sub,Ty.beq] at ht
 |int k n h1 h2=>
  intro t ht;have:=Ty.beq_eq (.int k) t (by cases t<;>simp_all [Ty.sub]);subst this;exact .int k n h1 h2
 |bool b=>
  intro t ht;have:=Ty.beq_eq .bool t (by cases t<;>simp_all [Ty.sub]);subst this;exact .bool b
 |str s h=>
  intro t ht;have:=Ty.beq_eq .str t (by cases t<;>simp_all [Ty.sub]);subst this;exact .str s h
 |nil e=>
  intro t ht;have:=Ty.beq_eq (.slice e) t (by cases t<;>simp_all [Ty.sub]);subst this;exact .nil e
 |emp e a=>
  intro t ht;have:=Ty.beq_eq (.slice e) t (by cases t<;>simp_all [Ty.sub]);subst this;exact .emp e a
 |slice e k o n c xs vs hn hc hm h hv hz=>
  intro t ht;have:=Ty.beq_eq (.slice e) t (by cases t<;>simp_all [Ty.sub]);subst this;exact .slice e k o n c xs vs hn hc hm h hv hz
 |mapnil kt et=>
  intro t ht;have:=Ty.beq_eq (.map kt et) t (by cases t<;>simp_all [Ty.sub]);subst this;exact .mapnil kt et
 |map kt et r ij es hm hl hx hk he=>
  intro t ht;have:=Ty.beq_eq (.map kt et) t (by cases t<;>simp_all [Ty.sub]);subst this;exact .map kt et r ij es hm hl hx hk he
 |ref s k o v d h hv=>
  intro t ht;have:=Ty.beq_eq (.ref s) t (by cases t<;>simp_all [Ty.sub]);subst this;exact .ref s k o v d h hv
 |fn f cs vs ds hc h1 h2 h=>
  intro t ht;have:=Ty.beq_eq (.fn cs.args cs.res) t (by cases t<;>simp_all [Ty.sub]);subst this;exact .fn f cs vs ds hc h1 h2 h
 |fnnil aa r=>
  intro t ht;have:=Ty.beq_eq (.fn aa r) t (by cases t<;>simp_all [Ty.sub]);subst this;exact .fnnil aa r
structure CtxOK (C:Ctx) (σ0:Im):Prop where
 glob:∀g x,C.glob g=some x->Rep C.cap σ0 (.ref x.1) (.pointer (some ⟨g,0,none⟩)) (.ref x.2)
 mg:∀g x,C.glob g=some x->σ0.m g=some mH
def axx {bM gs:List (Nat×Bool)}{O:Env}(h:OF bM gs=true)(hg:holds gs O=true):holds bM O=true:=by
 unfold holds OF at*;rw[cN] at*;intro g hm;obtain⟨k,hk,vZ⟩:=xL.1 (h g hm);simp only[ao,beq_iff_eq] at vZ;have h1:=ay vZ.1;have e:g=k:=by cases g;cases k;simp_all
 rw[e];exact hg k hk
section
variable {C:Ctx} {S:St} {O:Env} {V:Im} {own:Nat->Option Nat} {hv:Nat->Value} {w0:World} {σ0:Base} {A:Nat->Prop} {a:Act} {w:World} {gs:List (Nat×Bool)}
def nD (h:Inv C S O V own hv w0 σ0 A a w)(hg:holds gs O=true)(t:Nat):aG C S O V hv (nC S gs t) (a.tmps.getD t undef) (O.r t)/\∀bM s',nC S gs t≠.opt bM s':=by
 have hr:=h.regs t;unfold nC;cases hs:S.r t with
 |opt bM s=>
  rw[hs] at hr;have ho:=(h.opts t bM s hs).2;simp only;cases hb:OF bM gs with
  |true=>exact⟨hr.1 (axx hb hg),ho⟩
  |false=>exact⟨trivial,λ_ _ e=>by cases e⟩
 |_=>rw[hs] at hr;exact⟨hr,λ_ _ e=>by cases e⟩
def Rep.dcells {cap:Nat->Option CSig}{t:Ty}{v:Value}{d:D}(h:Rep cap V t v d)(ht:t.one=true):d.cells=[d]:=by
 cases h<;>simp_all [Ty.one,D.cells]
def QH (h:Inv C S O V own hv w0 σ0 A a w){b:PE}{cs:List Value}{ds:List D}(hd:b.ev O=.agg ds):
 ∀(shs:List Sh) (i:Nat) (r:List Ty×List PE),(∀m s,shs[m]?=some s->aG C S O V hv s (cs.getD (i+m) undef) (ds.getD (i+m) .none))->yh S b shs i=some r->
  r.1.length=shs.length/\∃es,(PE.evc O r.2=es/\PE.evs O r.2=es)/\es.length=shs.length/\(∀m t,r.1[m]?=some t->t.one=true/\Rep C.cap V t (cs.getD (i+m) undef) (es.getD m .none)):=by
 intro shs
 induction shs with
 |nil=>intro i r aK hr;simp[yh] at hr;subst hr;exact⟨rfl,[],⟨rfl,rfl⟩,rfl,by simp⟩
 |cons s shs ih=>
  intro i r aK hr;simp only[yh,az] at hr;obtain⟨x,hx,hr⟩:=hr
  have uN:∀m s,shs[m]?=some s->aG C S O V hv s (cs.getD (i+1+m) undef) (ds.getD (i+1+m) .none):=λm s hm=>by
   have:=aK (m+1) s (by simpa using hm)
   rwa [show i+(m+1)=i+1+m by omega] at this
  obtain⟨l1,es,⟨he,rG⟩,l2,bI⟩:=ih (i+1) x uN hx;have h0:=aK 0 s rfl;simp only[iU] at h0;split at hr
  .rename_i t;cases dE:t.one<;>simp only[dE,zyy,zyx] at hr
   .cases hr
   .cases hr;have gq:Rep C.cap V t (cs.getD i undef) (ds.getD i .none):=h0;refine⟨by simp[l1],ds.getD i .none::es,⟨?_,by simp only[PE.evs,PE.ev,hd,D.c,D.cells,rG]⟩,by simp[l2],λm t' hm=>?_⟩
    .simp only[PE.evc,PE.ev,hd,D.c,D.cells,he];have:=gq.dcells dE;simp only[D.cells] at this;rw[this];rfl
    .cases m with
     |zero=>simp at hm;subst hm;exact⟨dE,gq⟩
     |succ m=>simp at hm;have:=bI m t' hm;rwa [show i+1+m=i+(m+1) by omega] at this
  .rename_i j' ver;cases hb:Nat.beq ver (S.ver j')<;>simp only[hb,zyy,zyx] at hr
   .cases hr
   .have dF:=ay hb;split at hr
    .rename_i t eo;cases hr;have ho:=h.objs j';rw[eo] at ho;have gq:cs.getD i undef=hv j':=h0.2 dF;refine⟨by simp[l1],O.o j'::es,⟨?_,by simp only[PE.evs,PE.ev,rG]⟩,by simp[l2],λm t' hm=>?_⟩
     .simp only[PE.evc,PE.ev,he];rw[ho.2.dcells ho.1];rfl
     .cases m with
      |zero=>simp at hm;subst hm;exact⟨ho.1,by rw[iU,gq];exact ho.2⟩
      |succ m=>simp at hm;have:=bI m t' hm;rwa [show i+1+m=i+(m+1) by omega] at this
    .cases hr
  .cases hr
def cv (h:Inv C S O V own hv w0 σ0 A a w)(hC:CtxOK C σ0)(hg:holds gs O=true){x:Operand}{r:Ty×PE}(hu:use C S gs x=some r):Rep C.cap V r.1 (a.eval x) (r.2.ev O):=by
 cases x with
 |const v=>
  simp only[use,aB] at hu;obtain⟨y,hy,rfl⟩:=hu;exact aml hy
 |func f=>
  simp only[use] at hu;split at hu
  .rename_i aa r hc;cases hu;exact .fn f ⟨[],aa,r⟩ [] [] hc rfl rfl (λi t hi=>by simp at hi)
  .cases hu
 |global g=>
  simp only[use,aB] at hu;obtain⟨y,hy,rfl⟩:=hu;exact(hC.glob g y hy).mono h.le
 |tmp t=>
  obtain⟨hs,_⟩:=nD h hg t;simp only[use] at hu;split at hu
  .rename_i ty e;rw[e] at hs;cases hu;exact hs
  .rename_i j ver e;rw[e] at hs;cases hb:Nat.beq ver (S.ver j)<;>simp only[hb,zyy,zyx] at hu
   .cases hu
   .have dF:=ay hb;have ho:=h.objs j;split at hu
    .rename_i ty eo;rw[eo] at ho;cases hu;show Rep C.cap V ty (a.tmps.getD t undef) (O.o j);rw[hs.2 dF];exact ho.2
    .cases hu
  .rename_i j ver off e;rw[e] at hs;cases hb:(Nat.beq ver (S.ver j)&&Nat.beq off 0)<;>simp only[hb,zyy,zyx] at hu
   .cases hu
   .simp only[ao] at hb;have dF:=ay hb.1;have jc:=ay hb.2;have ho:=h.objs j;split at hu
    .rename_i ty eo;rw[eo] at ho;cases hu;obtain⟨k,v,h1,h2,h3⟩:=ho;obtain⟨k',e1,e2⟩:=hs.2 dF;rw[h1] at e1;cases e1;subst jc;show Rep C.cap V (.ref ty) (a.tmps.getD t undef) (.ref (O.o j));rw[e2];exact .ref ty k 0 v _ h2 (by simpa using h3)
    .cases hu
  .rename_i l e;rw[e] at hs;simp only[aB] at hu;obtain⟨p,hp,rfl⟩:=hu;obtain⟨vs,ds,e1,e2,e3,e4,e5⟩:=hs
   obtain⟨l1,es,⟨he,_⟩,l2,bI⟩:=QH (b:=.r t) h (cs:=vs) (ds:=ds) e2 _ 0 p (λm s hm=>by
      rw[bX,aB] at hm;obtain⟨c,hc,rfl⟩:=hm;rw[fw];have:=e5 m c hc;cases c with
      |dat t=>exact this.2
      |obj j ver=>exact this) hp
   rw[ef] at l1 l2;show Rep C.cap V (.agg p.1) (a.tmps.getD t undef) (.agg (PE.evc O p.2));rw[e1,he];refine .agg _ _ _ (by omega) (by omega) (λm t hm=>?_) (λm t hm=>(bI m t hm).1);have:=(bI m t hm).2
   rwa [fw] at this
  .cases hu
end
end Cx
