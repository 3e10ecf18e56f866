/-
  Shared texts of this claim.
-/
import Derived.Laws.AppendOwn
import Derived.Below
import Derived.Laws.StructEq
import Derived.ChangeKeysEq
import Derived.Calls
import Derived.Laws.Cells
import Derived.Laws.Entries
set_option linter.unusedVariables false
set_option linter.unusedSimpArgs false
noncomputable section
namespace Cx
open Go
theorem aw:type_of% @Bool.and_eq_true:=@Bool.and_eq_true
theorem aA:type_of% @Option.bind_eq_some_iff:=@Option.bind_eq_some_iff
theorem aC:type_of% @Option.map_eq_some_iff:=@Option.map_eq_some_iff
theorem aD:type_of% @Nat.eq_of_beq_eq_true:=@Nat.eq_of_beq_eq_true
theorem aI:type_of% @List.getD_eq_getElem?_getD:=@List.getD_eq_getElem?_getD
theorem aX:type_of% @List.getElem?_eq_getElem:=@List.getElem?_eq_getElem
theorem bj:type_of% @Option.some.injEq:=@Option.some.injEq
theorem bn:type_of% @Nat.le_refl:=@Nat.le_refl
theorem bW:type_of% @List.getElem_mem:=@List.getElem_mem
theorem ct:type_of% @List.getElem?_map:=@List.getElem?_map
theorem cu:type_of% @List.mem_map:=@List.mem_map
theorem cC:type_of% @List.mem_cons:=@List.mem_cons
theorem da:type_of% @List.all_eq_true:=@List.all_eq_true
theorem dM:type_of% @List.length_map:=@List.length_map
theorem dN:type_of% @List.mem_append:=@List.mem_append
theorem dO:type_of% @Nat.le_trans:=@Nat.le_trans
theorem ei:type_of% @Array.getElem?_eq_some_iff:=@Array.getElem?_eq_some_iff
theorem ej:type_of% @List.length_take:=@List.length_take
theorem eu:type_of% @List.mem_filter:=@List.mem_filter
theorem fe:type_of% @List.getElem?_eq_some_iff:=@List.getElem?_eq_some_iff
theorem ff:type_of% @Nat.mul_le_mul_right:=@Nat.mul_le_mul_right
theorem fy:type_of% @List.mem_cons_of_mem:=@List.mem_cons_of_mem
theorem fK:type_of% @List.mem_cons_self:=@List.mem_cons_self
theorem fX:type_of% @List.getElem_of_mem:=@List.getElem_of_mem
theorem fY:type_of% @List.mem_range:=@List.mem_range
theorem gG:type_of% @Array.getD_eq_getD_getElem?:=@Array.getD_eq_getD_getElem?
theorem gI:type_of% @Nat.add_mul:=@Nat.add_mul
theorem il:type_of% @List.take_succ_eq_append_getElem:=@List.take_succ_eq_append_getElem
theorem iI:type_of% @List.getElem?_take:=@List.getElem?_take
theorem jb:type_of% @List.getElem?_drop:=@List.getElem?_drop
theorem jc:type_of% @List.map_cons:=@List.map_cons
theorem jd:type_of% @List.mem_append_left:=@List.mem_append_left
theorem je:type_of% @Nat.zero_add:=@Nat.zero_add
theorem jz:type_of% @Array.getElem?_eq_getElem:=@Array.getElem?_eq_getElem
theorem jA:type_of% @List.mem_append_right:=@List.mem_append_right
theorem jW:type_of% @List.getElem?_eq_none:=@List.getElem?_eq_none
theorem jX:type_of% @Nat.div_le_self:=@Nat.div_le_self
theorem ko:type_of% @List.mem_of_getElem?:=@List.mem_of_getElem?
theorem kU:type_of% @Nat.zero_le:=@Nat.zero_le
theorem kV:type_of% @Option.getD_some:=@Option.getD_some
theorem kW:type_of% @Option.map_some:=@Option.map_some
theorem lN:type_of% @Bool.or_eq_true:=@Bool.or_eq_true
theorem lO:type_of% @Int.eq_ofNat_of_zero_le:=@Int.eq_ofNat_of_zero_le
theorem lP:type_of% @Nat.beq_refl:=@Nat.beq_refl
theorem lQ:type_of% @Nat.le_of_ble_eq_true:=@Nat.le_of_ble_eq_true
theorem lR:type_of% @Nat.lt_of_lt_of_le:=@Nat.lt_of_lt_of_le
theorem mi:type_of% @Bool.not_eq_true':=@Bool.not_eq_true'
theorem ml:type_of% @List.getElem?_append:=@List.getElem?_append
theorem mm:type_of% @List.length_append:=@List.length_append
theorem mq:type_of% @Nat.add_zero:=@Nat.add_zero
theorem mu:type_of% @Nat.min_eq_left:=@Nat.min_eq_left
theorem np:type_of% @List.map_append:=@List.map_append
theorem nq:type_of% @List.map_map:=@List.map_map
theorem nr:type_of% @Nat.mod_lt:=@Nat.mod_lt
theorem oI:type_of% @List.getD_cons_zero:=@List.getD_cons_zero
theorem oJ:type_of% @List.getElem?_append_left:=@List.getElem?_append_left
theorem oK:type_of% @List.getElem?_append_right:=@List.getElem?_append_right
theorem oL:type_of% @List.length_cons:=@List.length_cons
theorem oM:type_of% @List.length_filter_le:=@List.length_filter_le
theorem oN:type_of% @Prod.mk.injEq:=@Prod.mk.injEq
theorem qe:type_of% @Array.getElem?_toList:=@Array.getElem?_toList
theorem qf:type_of% @Array.mem_of_getElem?:=@Array.mem_of_getElem?
theorem qg:type_of% @Bool.cond_eq_ite:=@Bool.cond_eq_ite
theorem qj:type_of% @Int.mul_assoc:=@Int.mul_assoc
theorem qk:type_of% @List.nodup_cons:=@List.nodup_cons
theorem ql:type_of% @Nat.blt_eq:=@Nat.blt_eq
theorem rR:type_of% @Bool.false_and:=@Bool.false_and
theorem rS:type_of% @List.append_assoc:=@List.append_assoc
theorem rT:type_of% @List.foldl_append:=@List.foldl_append
theorem rU:type_of% @List.getElem?_range:=@List.getElem?_range
theorem rV:type_of% @Nat.mul_le_mul:=@Nat.mul_le_mul
theorem tF:type_of% @Bool.eq_iff_iff:=@Bool.eq_iff_iff
theorem tG:type_of% @Bool.or_true:=@Bool.or_true
theorem tJ:type_of% @List.all_cons:=@List.all_cons
theorem tK:type_of% @List.append_nil:=@List.append_nil
theorem tL:type_of% @List.map_congr_left:=@List.map_congr_left
theorem tM:type_of% @Nat.mul_assoc:=@Nat.mul_assoc
theorem tN:type_of% @Option.bind_some:=@Option.bind_some
theorem tO:type_of% @Option.some.inj:=@Option.some.inj
theorem vb:type_of% @Int.toNat_natCast:=@Int.toNat_natCast
theorem vc:type_of% @List.ext_getElem?:=@List.ext_getElem?
theorem vd:type_of% @List.flatMap_cons:=@List.flatMap_cons
theorem ve:type_of% @List.length_eq_zero_iff:=@List.length_eq_zero_iff
theorem xr:type_of% @Int.mul_nonneg:=@Int.mul_nonneg
theorem xt:type_of% @Int.tdiv_eq_ediv_of_nonneg:=@Int.tdiv_eq_ediv_of_nonneg
theorem xu:type_of% @List.any_eq_true:=@List.any_eq_true
theorem xw:type_of% @List.foldl_cons:=@List.foldl_cons
theorem xx:type_of% @List.getD_cons_succ:=@List.getD_cons_succ
theorem xy:type_of% @List.getElem?_toArray:=@List.getElem?_toArray
theorem xz:type_of% @List.map_id:=@List.map_id
theorem xA:type_of% @List.mem_flatMap:=@List.mem_flatMap
theorem xB:type_of% @List.mem_singleton:=@List.mem_singleton
theorem xC:type_of% @List.nil_append:=@List.nil_append
theorem xD:type_of% @List.pairwise_cons:=@List.pairwise_cons
theorem xE:type_of% @List.take_of_length_le:=@List.take_of_length_le
theorem xF:type_of% @Nat.add_assoc:=@Nat.add_assoc
theorem xG:type_of% @Nat.div_lt_iff_lt_mul:=@Nat.div_lt_iff_lt_mul
theorem xH:type_of% @Nat.lt_of_le_of_lt:=@Nat.lt_of_le_of_lt
theorem xI:type_of% @Nat.mul_comm:=@Nat.mul_comm
theorem xJ:type_of% @Nat.mul_right_comm:=@Nat.mul_right_comm
theorem xK:type_of% @Nat.two_pow_pos:=@Nat.two_pow_pos
theorem xL:type_of% @Nat.zero_mul:=@Nat.zero_mul
theorem xM:type_of% @Ne.symm:=@Ne.symm
theorem Aa:type_of% @Array.length_toList:=@Array.length_toList
theorem Ab:type_of% @Array.toList_inj:=@Array.toList_inj
theorem Ac:type_of% @Array.toList_map:=@Array.toList_map
theorem Ad:type_of% @Bool.and_false:=@Bool.and_false
theorem Ae:type_of% @Bool.false_eq_true:=@Bool.false_eq_true
theorem Af:type_of% @Bool.true_and:=@Bool.true_and
theorem Al:type_of% @Int.add_mul:=@Int.add_mul
theorem Am:type_of% @Int.le_refl:=@Int.le_refl
theorem An:type_of% @List.find?_eq_none:=@List.find?_eq_none
theorem Ao:type_of% @List.getElem?_of_mem:=@List.getElem?_of_mem
theorem Ap:type_of% @List.length_nil:=@List.length_nil
theorem Aq:type_of% @List.mem_filterMap:=@List.mem_filterMap
theorem Ar:type_of% @List.mem_map_of_mem:=@List.mem_map_of_mem
theorem As:type_of% @Nat.div_add_mod:=@Nat.div_add_mod
theorem Au:type_of% @Nat.le_of_mul_le_mul_right:=@Nat.le_of_mul_le_mul_right
theorem DJ:type_of% @Array.ext':=@Array.ext'
theorem DK:type_of% @Array.getElem?_setIfInBounds:=@Array.getElem?_setIfInBounds
theorem DL:type_of% @Bool.true_or:=@Bool.true_or
theorem DN:type_of% @Classical.byContradiction:=@Classical.byContradiction
theorem DO:type_of% @List.getElem?_take_of_lt:=@List.getElem?_take_of_lt
theorem DP:type_of% @List.length_pos_iff:=@List.length_pos_iff
theorem DQ:type_of% @List.mem_of_find?_eq_some:=@List.mem_of_find?_eq_some
theorem DR:type_of% @List.take_length:=@List.take_length
theorem DS:type_of% @Nat.div_add_mod':=@Nat.div_add_mod'
theorem DT:type_of% @Nat.eq_zero_or_pos:=@Nat.eq_zero_or_pos
theorem DU:type_of% @Nat.gcd_dvd_right:=@Nat.gcd_dvd_right
theorem DV:type_of% @Nat.gcd_pos_of_pos_right:=@Nat.gcd_pos_of_pos_right
theorem DW:type_of% @Nat.mod_eq_of_lt:=@Nat.mod_eq_of_lt
theorem DX:type_of% @Nat.mul_one:=@Nat.mul_one
theorem DY:type_of% @Nat.sub_mul:=@Nat.sub_mul
theorem IN:type_of% @Classical.em:=@Classical.em
theorem IU:type_of% @Int.mul_le_mul_of_nonneg_left:=@Int.mul_le_mul_of_nonneg_left
theorem IV:type_of% @Int.tmod_eq_emod_of_nonneg:=@Int.tmod_eq_emod_of_nonneg
theorem IW:type_of% @List.cons_append:=@List.cons_append
theorem IX:type_of% @List.filter_append:=@List.filter_append
theorem IY:type_of% @List.getElem?_set:=@List.getElem?_set
theorem IZ:type_of% @List.nodup_append:=@List.nodup_append
theorem I0:type_of% @List.pairwise_map:=@List.pairwise_map
theorem I1:type_of% @List.take_append_drop:=@List.take_append_drop
theorem I3:type_of% @Nat.gcd_dvd_left:=@Nat.gcd_dvd_left
theorem I4:type_of% @Nat.lt_or_ge:=@Nat.lt_or_ge
theorem I5:type_of% @Nat.mul_le_mul_left:=@Nat.mul_le_mul_left
theorem Po:type_of% @Array.eq_empty_of_size_eq_zero:=@Array.eq_empty_of_size_eq_zero
theorem Pp:type_of% @Array.getElem?_modify:=@Array.getElem?_modify
theorem Pq:type_of% @Array.size_push:=@Array.size_push
theorem Pr:type_of% @Bool.or_false:=@Bool.or_false
theorem Pu:type_of% @Function.comp_def:=@Function.comp_def
theorem Pw:type_of% @Int.le_trans:=@Int.le_trans
theorem Px:type_of% @Int.mul_comm:=@Int.mul_comm
theorem Py:type_of% @Int.toNat_of_nonneg:=@Int.toNat_of_nonneg
theorem Pz:type_of% @List.eq_nil_of_length_eq_zero:=@List.eq_nil_of_length_eq_zero
theorem PA:type_of% @List.ext_getElem:=@List.ext_getElem
theorem PB:type_of% @List.find?_some:=@List.find?_some
theorem PD:type_of% @List.getElem?_cons_zero:=@List.getElem?_cons_zero
theorem PF:type_of% @List.mem_of_mem_take:=@List.mem_of_mem_take
theorem PG:type_of% @List.pairwise_iff_getElem:=@List.pairwise_iff_getElem
theorem PH:type_of% @List.range'_succ:=@List.range'_succ
theorem PJ:type_of% @List.range_eq_range':=@List.range_eq_range'
theorem PK:type_of% @List.range_succ:=@List.range_succ
theorem PL:type_of% @List.take_take:=@List.take_take
theorem PN:type_of% @Nat.div_mul_cancel:=@Nat.div_mul_cancel
theorem PO:type_of% @Nat.dvd_mul_right:=@Nat.dvd_mul_right
theorem PQ:type_of% @Nat.le_div_iff_mul_le:=@Nat.le_div_iff_mul_le
theorem PR:type_of% @Nat.mul_pos:=@Nat.mul_pos
theorem PS:type_of% @Nat.one_mul:=@Nat.one_mul
theorem PU:type_of% @Nat.pow_add:=@Nat.pow_add
theorem PV:type_of% @Nat.sub_self:=@Nat.sub_self
theorem aaD:type_of% @Array.getElem?_setIfInBounds_ne:=@Array.getElem?_setIfInBounds_ne
theorem aaE:type_of% @Array.getElem_mem:=@Array.getElem_mem
theorem aaF:type_of% @Array.mem_filter:=@Array.mem_filter
theorem aaG:type_of% @Array.size_ofFn:=@Array.size_ofFn
theorem aaH:type_of% @Bool.eq_false_iff:=@Bool.eq_false_iff
theorem aaI:type_of% @Bool.or_eq_false_iff:=@Bool.or_eq_false_iff
theorem aaJ:type_of% @Classical.choose_spec:=@Classical.choose_spec
theorem aaO:type_of% @Int.ediv_nonneg:=@Int.ediv_nonneg
theorem aaP:type_of% @Int.mul_le_mul:=@Int.mul_le_mul
theorem aaQ:type_of% @Int.natAbs_natCast:=@Int.natAbs_natCast
theorem aaU:type_of% @List.drop_eq_nil_iff:=@List.drop_eq_nil_iff
theorem aaV:type_of% @List.eq_nil_iff_forall_not_mem:=@List.eq_nil_iff_forall_not_mem
theorem aaW:type_of% @List.flatten_cons:=@List.flatten_cons
theorem aaX:type_of% @List.foldl_map:=@List.foldl_map
theorem aaY:type_of% @List.getElem?_cons_succ:=@List.getElem?_cons_succ
theorem aaZ:type_of% @List.getElem?_take_eq_none:=@List.getElem?_take_eq_none
theorem aa0:type_of% @List.isEmpty_iff:=@List.isEmpty_iff
theorem aa1:type_of% @List.length_range:=@List.length_range
theorem aa2:type_of% @List.mapM_cons:=@List.mapM_cons
theorem aa3:type_of% @List.nodup_range:=@List.nodup_range
theorem aa4:type_of% @List.pairwise_append:=@List.pairwise_append
theorem aa5:type_of% @List.takeWhile_sublist:=@List.takeWhile_sublist
theorem aa7:type_of% @Nat.coprime_div_gcd_div_gcd:=@Nat.coprime_div_gcd_div_gcd
theorem aa8:type_of% @Nat.div_eq_of_lt:=@Nat.div_eq_of_lt
theorem aa9:type_of% @Nat.le_mul_of_pos_left:=@Nat.le_mul_of_pos_left
theorem aba:type_of% @Nat.le_mul_of_pos_right:=@Nat.le_mul_of_pos_right
theorem abb:type_of% @Nat.lt_of_not_le:=@Nat.lt_of_not_le
theorem abc:type_of% @Nat.mul_div_mul_right:=@Nat.mul_div_mul_right
theorem abd:type_of% @Nat.mul_eq_zero:=@Nat.mul_eq_zero
theorem abe:type_of% @Option.isSome_iff_exists:=@Option.isSome_iff_exists
theorem abf:type_of% @Option.map_map:=@Option.map_map
theorem akK:type_of% @Array.getElem?_push_size:=@Array.getElem?_push_size
theorem akZ:type_of% @Int.fdiv_eq_ediv_of_nonneg:=@Int.fdiv_eq_ediv_of_nonneg
theorem ak0:type_of% @Int.mul_le_mul_of_nonneg_right:=@Int.mul_le_mul_of_nonneg_right
theorem ak5:type_of% @List.drop_eq_getElem_cons:=@List.drop_eq_getElem_cons
theorem ak6:type_of% @List.getElem?_replicate:=@List.getElem?_replicate
theorem ak7:type_of% @List.mem_take_iff_getElem:=@List.mem_take_iff_getElem
theorem ala:type_of% @Nat.Coprime.coprime_dvd_left:=@Nat.Coprime.coprime_dvd_left
theorem alb:type_of% @Nat.Coprime.coprime_dvd_right:=@Nat.Coprime.coprime_dvd_right
theorem alc:type_of% @Nat.add_mul_mod_self_right:=@Nat.add_mul_mod_self_right
theorem ald:type_of% @Nat.pos_of_mul_pos_right:=@Nat.pos_of_mul_pos_right
inductive D where
 |v (x:Value)
 |agg (cs:List D)
 |list (xs:List D)
 |map (es:List (D×D))
 |ref (d:D)
 |clo (f:Nat) (caps:List D)
 |tup (ds:List D)
 |none
 deriving Inhabited
namespace D
def int (n:Int):D:=.v (.int .i64 n)
def bool (b:Bool):D:=.v (.bool b)
def i:D→Int|.v (.int _ n)=>n|_=>0
def b:D→Bool|.v (.bool x)=>x|_=>false
def s:D→ByteArray|.v (.string x)=>x|_=>ByteArray.empty
def cells:D→List D|.agg cs=>cs|d=>[d]
def c (d:D)(k:Nat):D:=d.cells.getD k .none
def l:D→List D|.list xs=>xs|_=>[]
def m:D→List (D×D)|.map es=>es|_=>[]
def tget:D→Nat→D|.tup ds,k=>ds.getD k .none|_,_=>.none
def deref:D→D|.ref d=>d|_=>.none
def fn:D→Nat|.clo f _=>f|_=>0
def caps:D→List D|.clo _ cs=>cs|_=>[]
end D
inductive Ty where
 |int (k:IntKind)
 |bool
 |str
 |agg (ts:List Ty)
 |slice (e:Ty)
 |nils (e:Ty)
 /--a slice Dy is nil if it is empty-/
 |nsl (e:Ty)
 |map (k e:Ty)
 |ref (t:Ty)
 |fn (args:List Ty) (res:Ty)
 |tup (ts:List Ty)
 |trm
 deriving Inhabited,Repr
def Ty.size:Ty→Nat
 |.agg ts=>ts.length
 |.trm=>3
 |_=>1
def Ty.one:Ty→Bool
 |.agg _|.tup _|.trm=>false
 |_=>true
def Ty.rowT:Ty→Bool
 |.agg _=>true
 |_=>false
mutual
def Ty.beq:Ty→Ty→Bool
 |.int a,.int b=>a==b
 |.bool,.bool|.str,.str|.trm,.trm=>true
 |.fn a r,.fn b s=>Ty.beqs a b&&Ty.beq r s
 |.agg a,.agg b=>Ty.beqs a b
 |.tup a,.tup b=>Ty.beqs a b
 |.slice a,.slice b=>Ty.beq a b
 |.nils a,.nils b=>Ty.beq a b
 |.nsl a,.nsl b=>Ty.beq a b
 |.ref a,.ref b=>Ty.beq a b
 |.map a b,.map c d=>Ty.beq a c&&Ty.beq b d
 |_,_=>false
def Ty.beqs:List Ty→List Ty→Bool
 |[],[]=>true
 |a::aa,b::bs=>Ty.beq a b&&Ty.beqs aa bs
 |_,_=>false
end
mutual
theorem Ty.beq_eq:∀a b:Ty,Ty.beq a b=true→a=b
 |.int a,b,h=>by cases b<;>simp_all [Ty.beq]
 |.bool,b,h=>by cases b<;>simp_all [Ty.beq]
 |.str,b,h=>by cases b<;>simp_all [Ty.beq]
 |.trm,b,h=>by cases b<;>simp_all [Ty.beq]
 |.fn a r,b,h=>by
  cases b with
  |fn b s=>simp only[Ty.beq,aw] at h;rw[Ty.beqs_eq a b h.1,Ty.beq_eq r s h.2]
  |_=>simp[Ty.beq] at h
 |.agg a,b,h=>by
  cases b with
  |agg b=>simp only[Ty.beq] at h;rw[Ty.beqs_eq a b h]
  |_=>simp[Ty.beq] at h
 |.tup a,b,h=>by
  cases b with
  |tup b=>simp only[Ty.beq] at h;rw[Ty.beqs_eq a b h]
  |_=>simp[Ty.beq] at h
 |.slice a,b,h=>by
  cases b with
  |slice b=>simp only[Ty.beq] at h;rw[Ty.beq_eq a b h]
  |_=>simp[Ty.beq] at h
 |.nils a,b,h=>by
  cases b with
  |nils b=>simp only[Ty.beq] at h;rw[Ty.beq_eq a b h]
  |_=>simp[Ty.beq] at h
 |.nsl a,b,h=>by
  cases b with
  |nsl b=>simp only[Ty.beq] at h;rw[Ty.beq_eq a b h]
  |_=>simp[Ty.beq] at h
 |.ref a,b,h=>by
  cases b with
  |ref b=>simp only[Ty.beq] at h;rw[Ty.beq_eq a b h]
  |_=>simp[Ty.beq] at h
 |.map a c,b,h=>by
  cases b with
  |map b d=>simp only[Ty.beq,aw] at h;rw[Ty.beq_eq a b h.1,Ty.beq_eq c d h.2]
  |_=>simp[Ty.beq] at h
theorem Ty.beqs_eq:∀a b:List Ty,Ty.beqs a b=true→a=b
 |[],b,h=>by cases b<;>simp_all [Ty.beqs]
 |x::a,b,h=>by
  cases b with
  |nil=>simp[Ty.beqs] at h
  |cons y b=>simp only[Ty.beqs,aw] at h;rw[Ty.beq_eq x y h.1,Ty.beqs_eq a b h.2]
end
mutual
theorem Ty.beq_refl:∀a:Ty,Ty.beq a a=true
 |.int a=>by simp[Ty.beq]
 |.bool=>rfl
 |.str=>rfl
 |.trm=>rfl
 |.fn a r=>by simp only[Ty.beq,aw];exact⟨Ty.beqs_refl a,Ty.beq_refl r⟩
 |.agg a=>by simp only[Ty.beq];exact Ty.beqs_refl a
 |.tup a=>by simp only[Ty.beq];exact Ty.beqs_refl a
 |.slice a=>by simp only[Ty.beq];exact Ty.beq_refl a
 |.nils a=>by simp only[Ty.beq];exact Ty.beq_refl a
 |.nsl a=>by simp only[Ty.beq];exact Ty.beq_refl a
 |.ref a=>by simp only[Ty.beq];exact Ty.beq_refl a
 |.map a b=>by simp only[Ty.beq,aw];exact⟨Ty.beq_refl a,Ty.beq_refl b⟩
theorem Ty.beqs_refl:∀a:List Ty,Ty.beqs a a=true
 |[]=>rfl
 |x::a=>by simp only[Ty.beqs,aw];exact⟨Ty.beq_refl x,Ty.beqs_refl a⟩
end
def Ty.trmA:Ty:=.agg [.int .i64,.int .i64,.slice .trm]
def Ty.unf:Ty→Ty
 |.trm=>.trmA
 |t=>t
def Ty.rol (t:Ty):Ty:=bif Ty.beq t .trmA then .trm else t
theorem Ty.unf_size (t:Ty):t.unf.size=t.size:=by cases t<;>rfl
theorem Ty.rol_size (t:Ty):t.rol.size=t.size:=by
 unfold Ty.rol;cases h:Ty.beq t .trmA with
 |true=>rw[Ty.beq_eq t .trmA h];rfl
 |false=>rfl
theorem Ty.unf_rol (t:Ty):t.rol.unf=t.unf:=by
 unfold Ty.rol;cases h:Ty.beq t .trmA with
 |true=>rw[Ty.beq_eq t .trmA h];rfl
 |false=>rfl
theorem Ty.unf_ro {t:Ty}(h:t.rowT=true∨t.one=true):t.unf=t:=by
 cases t with
 |trm=>simp[Ty.rowT,Ty.one] at h
 |_=>rfl
structure CSig where
 caps:List Ty
 args:List Ty
 res:Ty
 deriving Inhabited
structure Im where
 c:Nat→Nat→Option Value
 m:Nat→Option (List (Value×Value))
structure Im.le (σ τ:Im):Prop where
 c:∀k o v,σ.c k o=some v→τ.c k o=some v
 m:∀k es,σ.m k=some es→τ.m k=some es
theorem Im.le.refl (σ:Im):σ.le σ:=⟨fun _ _ _ h=>h,fun _ _ h=>h⟩
theorem Im.le.trans {a b c:Im}(h:a.le b)(k:b.le c):a.le c:=⟨fun x y z e=>k.c _ _ _ (h.c x y z e),fun x y e=>k.m _ _ (h.m x y e)⟩
def entriesOf (es:Array MapEntry):List (Value×Value):=es.toList.map fun e=>(e.key,e.val)
def cI:List (Value×Value):=[(.nilIface,.nilIface)]
def mc:List (Value×Value):=[(.nilIface,.nilIface),(.nilIface,.nilIface)]
theorem wN:mc≠cI:=by intro h;cases h
def pz (w:World)(k:Nat)(es:List (Value×Value)):Prop:=(es≠cI∧∃arr clock,w.heap[k]?=some (.map arr clock)∧entriesOf arr=es)∨(es=cI∧w.heap[k]?=some (.deferred (some [])))∨(es=mc∧∃cs T fz,w.heap[k]?=some (.cells cs T fz))
theorem pz.lt {w:World}{k:Nat}{es:List (Value×Value)}(h:pz w k es):k<w.heap.size:=by
 rcases h with⟨_,_,_,h,_⟩|⟨_,h⟩|⟨_,_,_,_,h⟩<;>exact(ei.1 h).1
theorem pz.keep {w w':World}{k:Nat}{es:List (Value×Value)}(h:pz w k es)(e:w'.heap[k]?=w.heap[k]?):pz w' k es:=by
 unfold pz;rw[e];exact h
structure Im.ok (σ:Im) (w:World):Prop where
 c:∀k o v,σ.c k o=some v→w.cell? ⟨k,o,none⟩=some v
 m:∀k es,σ.m k=some es→pz w k es
 /--numbers can be stored to,but for a aJv (blocks 0 to 2)-/
 f:∀k o n,σ.c k o=some (.int .i64 n)→k≤2∨w.frozen? ⟨k,o,none⟩=false
inductive Rep (cap:Nat→Option CSig) (σ:Im):Ty→Value→D→Prop where
 |int (k:IntKind) (n:Int) (h1:k.min≤n) (h2:n≤k.max):Rep cap σ (.int k) (.int k n) (.v (.int k n))
 |bool (b:Bool):Rep cap σ .bool (.bool b) (.v (.bool b))
 |str (s:ByteArray) (h:s.size≤maxLen):Rep cap σ .str (.string s) (.v (.string s))
 |agg (ts:List Ty) (vs:List Value) (ds:List D) (h1:vs.length=ts.length) (h2:ds.length=ts.length)
   (h:∀(i:Nat) (t:Ty),ts[i]?=some t→Rep cap σ t (vs.getD i undef) (ds.getD i .none)) (ho:∀(i:Nat) (t:Ty),ts[i]?=some t→t.one=true):Rep cap σ (.agg ts) (.agg vs.toArray) (.agg ds)
 |tup (ts:List Ty) (vs:List Value) (ds:List D) (h1:vs.length=ts.length) (h2:ds.length=ts.length)
   (h:∀(i:Nat) (t:Ty),ts[i]?=some t→Rep cap σ t (vs.getD i undef) (ds.getD i .none)):Rep cap σ (.tup ts) (.tuple vs.toArray) (.tup ds)
 |nil (e:Ty):Rep cap σ (.slice e) (.slice none 0 0) (.list [])
 |emp (e:Ty) (a:Addr):Rep cap σ (.slice e) (.slice (some a) 0 0) (.list [])
 |nils (e:Ty):Rep cap σ (.nils e) (.slice none 0 0) (.list [])
 |nsl0 (e:Ty):Rep cap σ (.nsl e) (.slice none 0 0) (.list [])
 |nsl (e:Ty) (k o n c:Nat) (xs:List D) (h:Rep cap σ (.slice e) (.slice (some ⟨k,o,none⟩) n c) (.list xs)) (hx:xs≠[]):Rep cap σ (.nsl e) (.slice (some ⟨k,o,none⟩) n c) (.list xs)
 |slice (e:Ty) (k o n c:Nat) (xs:List D) (vs:Nat→Value) (hn:xs.length=n) (hc:n≤c) (hm:c≤maxLen)
   (h:∀(i:Nat) (x:D),xs[i]?=some x→Rep cap σ e.unf (vs i) x)
   (hv:∀(i j:Nat) (u:Value),i<n→(vs i).cells[j]?=some u→σ.c k (o+i*e.size+j)=some u)
   (hz:e=.int .i64→σ.m k=some mc):Rep cap σ (.slice e) (.slice (some ⟨k,o,none⟩) n c) (.list xs)
 |mapnil (kt et:Ty):Rep cap σ (.map kt et) (.map none) (.map [])
 |map (kt et:Ty) (r:Nat) (ic:List (Value×Value)) (es:List (D×D)) (hm:σ.m r=some ic) (hl:es.length=ic.length) (hx:es.length≤maxLen)
   (hk:∀(i:Nat) (p:Value×Value) (q:D×D),ic[i]?=some p→es[i]?=some q→Rep cap σ kt p.1 q.1)
   (he:∀(i:Nat) (p:Value×Value) (q:D×D),ic[i]?=some p→es[i]?=some q→Rep cap σ et p.2 q.2):Rep cap σ (.map kt et) (.map (some r)) (.map es)
 |ref (t:Ty) (k o:Nat) (v:Value) (d:D) (h:Rep cap σ t v d) (hv:∀(j:Nat) (u:Value),v.cells[j]?=some u→σ.c k (o+j)=some u):
   Rep cap σ (.ref t) (.pointer (some ⟨k,o,none⟩)) (.ref d)
 |fn (f:Nat) (cs:CSig) (vs:List Value) (ds:List D) (hc:cap f=some cs) (h1:vs.length=cs.caps.length) (h2:ds.length=cs.caps.length)
   (h:∀(i:Nat) (t:Ty),cs.caps[i]?=some t→Rep cap σ t (vs.getD i undef) (ds.getD i .none)):Rep cap σ (.fn cs.args cs.res) (.func (.func f) #[] vs.toArray) (.clo f ds)
 |fnnil (aa:List Ty) (r:Ty):Rep cap σ (.fn aa r) .nilFunc (.v .nilFunc)
theorem Rep.mono {cap:Nat→Option CSig}{σ τ:Im}(hle:σ.le τ){t:Ty}{v:Value}{d:D}(h:Rep cap σ t v d):Rep cap τ t v d:=by
 induction h with
 |int k n h1 h2=>exact .int k n h1 h2
 |bool b=>exact .bool b
 |str s h=>exact .str s h
 |agg ts vs ds h1 h2 _ ho ih=>exact .agg ts vs ds h1 h2 ih ho
 |tup ts vs ds h1 h2 _ ih=>exact .tup ts vs ds h1 h2 ih
 |nil e=>exact .nil e
 |emp e a=>exact .emp e a
 |nils e=>exact .nils e
 |nsl0 e=>exact .nsl0 e
 |nsl e k o n c xs _ hx ih=>exact .nsl e k o n c xs ih hx
 |slice e k o n c xs vs hn hc hm _ hv hz ih=>exact .slice e k o n c xs vs hn hc hm ih (fun i j u hi hu=>hle.c _ _ _ (hv i j u hi hu)) fun e=>hle.m _ _ (hz e)
 |mapnil kt et=>exact .mapnil kt et
 |map kt et r ic es hm hl hx _ _ kI Gf=>exact .map kt et r ic es (hle.m _ _ hm) hl hx kI Gf
 |ref t k o v d _ hv ih=>exact .ref t k o v d ih fun j u hu=>hle.c _ _ _ (hv j u hu)
 |fn f cs vs ds hc h1 h2 _ ih=>exact .fn f cs vs ds hc h1 h2 ih
 |fnnil aa r=>exact .fnnil aa r
def Im.drop (σ:Im)(D:Nat):Im:=⟨σ.c,fun k=>if k=D then none else σ.m k⟩
structure Im.leR (cap:Nat→Option CSig) (σ τ:Im):Prop where
 rep:∀{t:Ty} {v:Value} {d:D},Rep cap σ t v d→Rep cap τ t v d
 c:∀k o v,σ.c k o=some v→τ.c k o=some v
theorem Im.le.leR {cap:Nat→Option CSig}{σ τ:Im}(h:σ.le τ):Im.leR cap σ τ:=⟨fun r=>r.mono h,h.c⟩
theorem Gy {cap:Nat→Option CSig}{σ:Im}{kt:Ty}{ic:List (Value×Value)}{es:List (D×D)}(hl:es.length=ic.length)
 (hk:∀(i:Nat) (p:Value×Value) (q:D×D),ic[i]?=some p→es[i]?=some q→Rep cap σ kt p.1 q.1):ic≠cI:=by
 rintro rfl
 match es,hl with
 |[q],_=>have:=hk 0 _ q rfl rfl;cases this
theorem af6 {cap:Nat→Option CSig}{σ:Im}{kt:Ty}{ic:List (Value×Value)}{es:List (D×D)}(hl:es.length=ic.length)
 (hk:∀(i:Nat) (p:Value×Value) (q:D×D),ic[i]?=some p→es[i]?=some q→Rep cap σ kt p.1 q.1):ic≠mc:=by
 rintro rfl
 match es,hl with
 |[q,q'],_=>have:=hk 0 _ q rfl rfl;cases this
theorem pz.mp {w:World}{k:Nat}{es:List (Value×Value)}(h:pz w k es)(h1:es≠cI)(h2:es≠mc):∃arr clock,w.heap[k]?=some (.map arr clock)∧entriesOf arr=es:=by
 rcases h with h|h|h
 ·exact h.2
 ·exact absurd h.1 h1
 ·exact absurd h.1 h2
theorem Rep.drop {cap:Nat→Option CSig}{σ:Im}{Dd:Nat}(hD:σ.m Dd=some cI){t:Ty}{v:Value}{d:D}(h:Rep cap σ t v d):Rep cap (σ.drop Dd) t v d:=by
 induction h with
 |int k n h1 h2=>exact .int k n h1 h2
 |bool b=>exact .bool b
 |str s h=>exact .str s h
 |agg ts vs ds h1 h2 _ ho ih=>exact .agg ts vs ds h1 h2 ih ho
 |tup ts vs ds h1 h2 _ ih=>exact .tup ts vs ds h1 h2 ih
 |nil e=>exact .nil e
 |emp e a=>exact .emp e a
 |nils e=>exact .nils e
 |nsl0 e=>exact .nsl0 e
 |nsl e k o n c xs _ hx ih=>exact .nsl e k o n c xs ih hx
 |slice e k o n c xs vs hn hc hm _ hv hz ih=>
  refine .slice e k o n c xs vs hn hc hm ih hv fun e=>?_;have ay:k≠Dd:=fun e'=>by subst e';rw[hz e] at hD;exact wN (tO hD)
  simp[Im.drop,ay,hz e]
 |mapnil kt et=>exact .mapnil kt et
 |map kt et r ic es hm hl hx hk _ kI Gf=>
  refine .map kt et r ic es ?_ hl hx kI Gf;have ay:r≠Dd:=fun e=>by subst e;rw[hm] at hD;cases hD;exact Gy hl hk rfl
  simp[Im.drop,ay,hm]
 |ref t k o v d _ hv ih=>exact .ref t k o v d ih hv
 |fn f cs vs ds hc h1 h2 _ ih=>exact .fn f cs vs ds hc h1 h2 ih
 |fnnil aa r=>exact .fnnil aa r
theorem Rep.unf {cap:Nat→Option CSig}{σ:Im}{t:Ty}{v:Value}{d:D}(h:Rep cap σ t v d):Rep cap σ t.unf v d:=by
 cases t with
 |trm=>cases h
 |_=>exact h
theorem Rep.unf_rol {cap:Nat→Option CSig}{σ:Im}{t:Ty}{v:Value}{d:D}(h:Rep cap σ t v d):Rep cap σ t.rol.unf v d:=by
 rw[Ty.unf_rol];exact h.unf
theorem Rep.size {cap:Nat→Option CSig}{σ:Im}{t:Ty}{v:Value}{d:D}(h:Rep cap σ t v d):v.cells.size=t.size:=by
 cases h<;>simp_all [Value.cells,Ty.size]
theorem Rep.oneCell {cap:Nat→Option CSig}{σ:Im}{t:Ty}{v:Value}{d:D}(h:Rep cap σ t v d)(ht:t.one=true):v.cells=#[v]∧v.oneCell'=true:=by
 cases h<;>simp_all [Value.cells,Ty.one,Value.oneCell']
end Cx
namespace Cx
open Go
theorem D.b_bool (x:Bool):(D.v (.bool x)).b=x:=rfl
theorem D.i_int (k:IntKind)(n:Int):(D.v (.int k n)).i=n:=rfl
theorem D.s_str (x:ByteArray):(D.v (.string x)).s=x:=rfl
theorem D.l_list (x:List D):(D.list x).l=x:=rfl
structure Env where
 r:Nat→D
 o:Nat→D
def cd {α:Type}(f:Nat→α)(i:Nat)(x:α):Nat→α:=fun j=>bif Nat.beq j i then x else f j
theorem ga {i j:Nat}(h:j≠i):Nat.beq j i=false:=by
 cases h':Nat.beq j i
 ·rfl
 ·exact absurd (aD h') h
theorem aS {α:Type}(f:Nat→α)(i:Nat)(x:α):cd f i x i=x:=by simp[cd]
theorem bM {α:Type}(f:Nat→α){i j:Nat}(x:α)(h:j≠i):cd f i x j=f j:=by simp[cd,ga h]
theorem fJ {α:Type}(f:Nat→α)(i j:Nat)(x:α):cd f i x j=if j=i then x else f j:=by
 by_cases h:j=i
 ·subst h;simp[cd]
 ·simp[cd,ga h,h]
def Env.setR (ρ:Env)(t:Nat)(d:D):Env:={ρ with r:=cd ρ.r t d}
def Env.setO (ρ:Env)(j:Nat)(d:D):Env:={ρ with o:=cd ρ.o j d}
inductive PE where
 |r (t:Nat)|o (j:Nat)|con (d:D)
 |cell (e:PE) (i:Nat)
 |sub (e:PE) (off n:Nat)
 |setc (e:PE) (off:Nat) (x:PE)
 |mk (es:List PE)
 |ai (op:BinOp) (k:IntKind) (x y:PE)
 |ci (op:BinOp) (x y:PE)
 |cb (op:BinOp) (x y:PE)
 |cs (op:BinOp) (x y:PE)
 |sadd (x y:PE)
 |nt (x:PE)
 |conv (k:IntKind) (x:PE)
 |pick (c a b:PE)
 |llen (x:PE)|slen (x:PE)|mlen (x:PE)|bytes (x:PE)
 |nth (x i:PE)|idx (x i:PE)|sidx (x i:PE)|sok (x i:PE)
 |setn (x i:PE) (off:Nat) (y:PE)
 |app (x y:PE)|lst (es:List PE)|rep (n z:PE)
 |slc (x lo hi:PE)|slok (x lo hi:PE)
 |ref (x:PE)|deref (x:PE)
 |look (m k z:PE)|has (m k:PE)|put (m k v:PE)
 |mn (x y:PE)|mx (x y:PE)
 |tup (es:List PE)|tget (e:PE) (i:Nat)
 |clo (f:Nat) (es:List PE)
 |an (x y:PE)|imp (c:List (Nat×Bool)) (x:PE)
 deriving Inhabited
def bX (op:BinOp)(k:IntKind)(a b:Int):Int:=
 match op with
 |.add=>k.wrap (a+b)
 |.sub=>k.wrap (a-b)
 |.mul=>k.wrap (a*b)
 |.quo=>k.wrap (a.tdiv b)
 |.rem=>a.tmod b
 |.and=>k.wrap (BitVec.ofInt k.bits a&&& BitVec.ofInt k.bits b).toNat
 |.or=>k.wrap (BitVec.ofInt k.bits a|||BitVec.ofInt k.bits b).toNat
 |.xor=>k.wrap (BitVec.ofInt k.bits a^^^BitVec.ofInt k.bits b).toNat
 |.andNot=>k.wrap (BitVec.ofInt k.bits a&&& ~~~BitVec.ofInt k.bits b).toNat
 |.shl=>k.wrap (a*2^(min b.toNat k.bits))
 |.shr=>a.fdiv (2^(min b.toNat k.bits))
 |_=>0
def jD (op:BinOp)(a b:Int):Bool:=
 match op with
 |.eql=>a==b|.neq=>a !=b|.lss=>decide (a<b)|.leq=>decide (a≤b)|.gtr=>decide (a>b)|.geq=>decide (a≥b)
 |_=>false
def BF (op:BinOp)(x y:ByteArray):Bool:=
 let eq:=x.toList==y.toList
 let lt:=Op.bytesLess x.toList y.toList
 match op with
 |.eql=>eq|.neq=> !eq|.lss=>lt|.leq=>lt||eq|.gtr=> !(lt||eq)|.geq=> !lt
 |_=>false
def BD (op:BinOp)(x y:Bool):Bool:=
 match op with
 |.eql=>x==y|.neq=> !(x==y)
 |_=>false
def y5:D→D→Bool
 |.v (.int _ a),.v (.int _ b)=>a==b
 |.v (.string a),.v (.string b)=>a==b
 |.v (.bool a),.v (.bool b)=>a==b
 |_,_=>false
def v8:List D→List D→Bool
 |[],[]=>true
 |a::aa,b::bs=>y5 a b&&v8 aa bs
 |_,_=>false
def iW (a b:D):Bool:=v8 a.cells b.cells
def jL (k:D):List (D×D)→Option D
 |[]=>Option.none
 |e::es=>if iW k e.1 then some e.2 else jL k es
def fT (k v:D):List (D×D)→List (D×D)
 |[]=>[(k,v)]
 |e::es=>if iW k e.1 then(k,v)::es else e::fT k v es
def dK (xs:List D)(off:Nat)(ys:List D):List D:=xs.take off++ys++xs.drop (off+ys.length)
def wV (x:D)(off:Nat)(y:D):D:=
 match x with
 |.agg cs=>.agg (dK cs off y.cells)
 |_=>y
def holds (gs:List (Nat×Bool))(ρ:Env):Bool:=gs.all fun g=>(ρ.r g.1).b==g.2
mutual
def PE.ev (ρ:Env):PE→D
 |.r t=>ρ.r t
 |.o j=>ρ.o j
 |.con d=>d
 |.cell e i=>(PE.ev ρ e).c i
 |.sub e off n=>.agg (((PE.ev ρ e).cells.drop off).take n)
 |.setc e off x=>.agg (dK (PE.ev ρ e).cells off (PE.ev ρ x).cells)
 |.mk es=>.agg (PE.evc ρ es)
 |.ai op k x y=>.v (.int k (bX op k (PE.ev ρ x).i (PE.ev ρ y).i))
 |.ci op x y=>.v (.bool (jD op (PE.ev ρ x).i (PE.ev ρ y).i))
 |.cb op x y=>.v (.bool (BD op (PE.ev ρ x).b (PE.ev ρ y).b))
 |.cs op x y=>.v (.bool (BF op (PE.ev ρ x).s (PE.ev ρ y).s))
 |.sadd x y=>.v (.string ((PE.ev ρ x).s++(PE.ev ρ y).s))
 |.nt x=>.v (.bool (!(PE.ev ρ x).b))
 |.conv k x=>.v (.int k (k.wrap (PE.ev ρ x).i))
 |.pick c a b=>bif (PE.ev ρ c).b then PE.ev ρ a else PE.ev ρ b
 |.llen x=>.v (.int .i64 (PE.ev ρ x).l.length)
 |.slen x=>.v (.int .i64 (PE.ev ρ x).s.size)
 |.bytes x=>.list ((PE.ev ρ x).s.data.toList.map fun b=>.v (.int .u8 b.toNat))
 |.mlen x=>.v (.int .i64 (PE.ev ρ x).m.length)
 |.nth x i=>(PE.ev ρ x).l.getD (PE.ev ρ i).i.toNat .none
 |.idx x i=>.v (.bool (decide (0≤(PE.ev ρ i).i∧(PE.ev ρ i).i<(PE.ev ρ x).l.length)))
 |.sidx x i=>.v (.int .u8 ((PE.ev ρ x).s.data.getD (PE.ev ρ i).i.toNat 0).toNat)
 |.sok x i=>.v (.bool (decide (0≤(PE.ev ρ i).i∧(PE.ev ρ i).i<(PE.ev ρ x).s.size)))
 |.setn x i off y=>.list ((PE.ev ρ x).l.set (PE.ev ρ i).i.toNat (wV ((PE.ev ρ x).l.getD (PE.ev ρ i).i.toNat .none) off (PE.ev ρ y)))
 |.app x y=>.list ((PE.ev ρ x).l++(PE.ev ρ y).l)
 |.lst es=>.list (PE.evs ρ es)
 |.rep n z=>.list (List.replicate (PE.ev ρ n).i.toNat (PE.ev ρ z))
 |.slc x lo hi=>.list (((PE.ev ρ x).l.take (PE.ev ρ hi).i.toNat).drop (PE.ev ρ lo).i.toNat)
 |.slok x lo hi=>.v (.bool (decide (0≤(PE.ev ρ lo).i∧(PE.ev ρ lo).i≤(PE.ev ρ hi).i∧(PE.ev ρ hi).i≤(PE.ev ρ x).l.length)))
 |.ref x=>.ref (PE.ev ρ x)
 |.deref x=>(PE.ev ρ x).deref
 |.look m k z=>(jL (PE.ev ρ k) (PE.ev ρ m).m).getD (PE.ev ρ z)
 |.has m k=>.v (.bool (jL (PE.ev ρ k) (PE.ev ρ m).m).isSome)
 |.put m k v=>.map (fT (PE.ev ρ k) (PE.ev ρ v) (PE.ev ρ m).m)
 |.mn x y=>bif decide ((PE.ev ρ y).i<(PE.ev ρ x).i) then PE.ev ρ y else PE.ev ρ x
 |.mx x y=>bif decide ((PE.ev ρ y).i>(PE.ev ρ x).i) then PE.ev ρ y else PE.ev ρ x
 |.tup es=>.tup (PE.evs ρ es)
 |.tget e i=>(PE.ev ρ e).tget i
 |.clo f es=>.clo f (PE.evs ρ es)
 |.an x y=>.v (.bool ((PE.ev ρ x).b&&(PE.ev ρ y).b))
 |.imp c x=>.v (.bool (!holds c ρ||(PE.ev ρ x).b))
def PE.evs (ρ:Env):List PE→List D
 |[]=>[]
 |e::es=>PE.ev ρ e::PE.evs ρ es
def PE.evc (ρ:Env):List PE→List D
 |[]=>[]
 |e::es=>(PE.ev ρ e).cells++PE.evc ρ es
end
theorem PE.evs_eq (ρ:Env)(es:List PE):PE.evs ρ es=es.map (PE.ev ρ):=by
 induction es with
 |nil=>rfl
 |cons e es ih=>simp[PE.evs,ih]
inductive PI where
 |setR (t:Nat) (e:PE)
 |setO (j:Nat) (e:PE)
 |chk (e:PE)
 |call (gs:List (Nat×Bool)) (dst:Nat) (f:Nat) (args:List PE)
 |callc (gs:List (Nat×Bool)) (dst:Nat) (e:PE) (args:List PE)
 |mcall (j:Nat) (f:Nat) (args:List PE)
 deriving Inhabited
abbrev aW:=Nat→List D→Option D
def PI.run (Φ:aW)(ρ:Env):PI→Option Env
 |.setR t e=>some (ρ.setR t (e.ev ρ))
 |.setO j e=>some (ρ.setO j (e.ev ρ))
 |.chk e=>bif (e.ev ρ).b then some ρ else none
 |.call gs dst f args=>bif holds gs ρ then(Φ f (PE.evs ρ args)).map (ρ.setR dst) else some ρ
 |.callc gs dst e args=>bif holds gs ρ then(match e.ev ρ with|.clo f caps=>(Φ f (PE.evs ρ args++caps)).map (ρ.setR dst)|_=>none) else some ρ
 |.mcall j f args=>(Φ f (PE.evs ρ args)).map (ρ.setO j)
def PI.runs (Φ:aW):List PI→Env→Option Env
 |[],ρ=>some ρ
 |x::xs,ρ=>(x.run Φ ρ).bind (PI.runs Φ xs)
inductive PC where
 |skip
 |is (l:List PI)
 |seq (a b:PC)
 |ite (c:PE) (lr lo:List Nat) (a b:PC)
 |block (id:Nat) (lr lo:List Nat) (a:PC)
 |loop (lr lo:List Nat) (a:PC)
 |exit (id:Nat)
 |ret (e:PE)
 /--for each element of a list:p8 ajA 'ps' P7 its parts;rt:DF a return in p8 body aGX back-/
 |each (e:PE) (ps lo:List Nat) (rt:Option PE) (a:PC)
 /--for each entry of a map,in aJz order:p8 ajA 'ps' P7 its parts 'aIY;J:DF has abD seen,and p8 map-/
 |meach (J:Nat) (ps dj lo:List Nat) (a:PC)
 deriving Inhabited
def cR:Nat:=1000000007
inductive Out where
 |next (ρ:Env)
 |exit (id:Nat) (ρ:Env)
 |ret (d:D)
def putL (f:Nat→D):List Nat→List D→Nat→D
 |i::is,x::xs=>cd (putL f is xs) i x
 |_,_=>f
def Env.put (ρ:Env)(lr:List Nat)(vr:List D)(lo:List Nat)(vo:List D):Env:=⟨putL ρ.r lr vr,putL ρ.o lo vo⟩
def Env.join (ρ:Env)(lr lo:List Nat)(ρ':Env):Env:=ρ.put lr (lr.map ρ'.r) lo (lo.map ρ'.o)
theorem uS (f g:Nat→D)(l:List Nat)(t:Nat):putL f l (l.map g) t=if t∈l then g t else f t:=by
 induction l with
 |nil=>rfl
 |cons i is ih=>
  simp only[jc,putL,fJ,ih,cC];by_cases h:t=i
  ·subst h;simp
  ·simp[h]
def iX (body:Env→Option Out)(ρ:Env)(lr lo:List Nat):Nat→List D→List D→Option Out
 |0,_,_=>none
 |n+1,vr,vo=>
  match body (ρ.put lr vr lo vo) with
  |some (.next ρ')=>iX body ρ lr lo n (lr.map ρ'.r) (lo.map ρ'.o)
  |x=>x
def partsOf (ps:List Nat)(x:D):List D:=(List.range ps.length).map x.tget
def jh (body:Env→Option Out)(ρ:Env)(ps lo:List Nat)(rt:Option PE):List D→List D→Option Out
 |[],vo=>some (.next (ρ.put [] [] lo vo))
 |x::xs,vo=>
  match body (ρ.put ps (partsOf ps x) lo vo) with
  |some (.next ρ')=>jh body ρ ps lo rt xs (lo.map ρ'.o)
  |some (.exit id ρ')=>bif Nat.beq id cR then rt.map (fun e=>.ret (e.ev (ρ.put [] [] lo (lo.map ρ'.o)))) else some (.exit id (ρ.put [] [] lo (lo.map ρ'.o)))
  |_=>none
def pJ (body:Env→Option Out)(ρ:Env)(J:Nat)(es:D)(ps dj lo:List Nat):List D→List D→List D→Option (List D)
 |[],_,vo=>some vo
 |x::xs,done,vo=>
  match body ((ρ.put ps (dj.map x.tget) lo vo).setO J (.tup [.list (done++[x]),es])) with
  |some (.next ρ')=>pJ body ρ J es ps dj lo xs (done++[x]) (lo.map ρ'.o)
  |_=>none
def iY (es:D):List D:=es.m.map fun p=>.tup [p.1,p.2]
def Nd (body:Env→Option Out)(ρ:Env)(J:Nat)(ps dj lo:List Nat)(vo:List D):Prop:=
 (ρ.o J).tget 0=.list []∧∀ys:List D,ys.Perm (iY ((ρ.o J).tget 1))→pJ body ρ J ((ρ.o J).tget 1) ps dj lo ys [] (lo.map ρ.o)=some vo
open Classical in
def Nf (body:Env→Option Out)(ρ:Env)(J:Nat)(ps dj lo:List Nat):Option Out:=
 if h:∃vo,Nd body ρ J ps dj lo vo then some (.next (ρ.put [] [] lo h.choose)) else none
theorem CU {body:Env→Option Out}{ρ:Env}{J:Nat}{ps dj lo:List Nat}{x:Out}:Nf body ρ J ps dj lo=some x↔∃vo,Nd body ρ J ps dj lo vo∧x=.next (ρ.put [] [] lo vo):=by
 unfold Nf;constructor
 ·intro h;split at h
  ·rename_i hh;cases h;exact⟨_,hh.choose_spec,rfl⟩
  ·cases h
 ·rintro⟨vo,h,rfl⟩;have hh:∃vo,Nd body ρ J ps dj lo vo:=⟨vo,h⟩
  rw[dif_pos hh];have:=(hh.choose_spec.2 _ (List.Perm.refl _)).symm.trans (h.2 _ (List.Perm.refl _));rw[tO this]
def PC.ev (Φ:aW)(n:Nat):PC→Env→Option Out
 |.skip,ρ=>some (.next ρ)
 |.is l,ρ=>(PI.runs Φ l ρ).map .next
 |.seq a b,ρ=>
  match PC.ev Φ n a ρ with
  |some (.next ρ')=>PC.ev Φ n b ρ'
  |x=>x
 |.ite c lr lo a b,ρ=>
  match(bif (c.ev ρ).b then PC.ev Φ n a ρ else PC.ev Φ n b ρ) with
  |some (.next ρ')=>some (.next (ρ.join lr lo ρ'))
  |x=>x
 |.block id lr lo a,ρ=>
  match PC.ev Φ n a ρ with
  |some (.next ρ')=>some (.next (ρ.join lr lo ρ'))
  |some (.exit bS ρ')=>bif Nat.beq bS id then some (.next (ρ.join lr lo ρ')) else some (.exit bS ρ')
  |x=>x
 |.loop lr lo a,ρ=>iX (PC.ev Φ n a) ρ lr lo n (lr.map ρ.r) (lo.map ρ.o)
 |.exit id,ρ=>some (.exit id ρ)
 |.ret e,ρ=>some (.ret (e.ev ρ))
 |.each e ps lo rt a,ρ=>jh (PC.ev Φ n a) ρ ps lo rt (e.ev ρ).l (lo.map ρ.o)
 |.meach J ps dj lo a,ρ=>Nf (PC.ev Φ n a) ρ J ps dj lo
def PI.modR:PI→List Nat
 |.setR t _=>[t]|.call _ t _ _=>[t]|.callc _ t _ _=>[t]|_=>[]
def PI.modO:PI→List Nat
 |.setO j _=>[j]|.mcall j _ _=>[j]|_=>[]
def PC.modR:PC→List Nat
 |.skip=>[]|.is l=>l.flatMap PI.modR|.seq a b=>a.modR++b.modR|.ite _ lr _ a b=>lr++a.modR++b.modR
 |.block _ lr _ a=>lr++a.modR|.loop lr _ a=>lr++a.modR|.exit _=>[]|.ret _=>[]|.each ..=>[]|.meach ..=>[]
def PC.modO:PC→List Nat
 |.skip=>[]|.is l=>l.flatMap PI.modO|.seq a b=>a.modO++b.modO|.ite _ _ lo a b=>lo++a.modO++b.modO
 |.block _ _ lo a=>lo++a.modO|.loop _ lo a=>lo++a.modO|.exit _=>[]|.ret _=>[]|.each _ _ lo _ _=>lo|.meach _ _ _ lo _=>lo
structure Env.but (ρ ρ':Env) (mr mo:List Nat):Prop where
 r:∀t,t∉mr→ρ'.r t=ρ.r t
 o:∀t,t∉mo→ρ'.o t=ρ.o t
theorem Env.but.refl (ρ:Env)(mr mo:List Nat):ρ.but ρ mr mo:=⟨fun _ _=>rfl,fun _ _=>rfl⟩
theorem Env.but.trans {a b c:Env}{mr mo:List Nat}(h:a.but b mr mo)(k:b.but c mr mo):a.but c mr mo:=
 ⟨fun t ht=>(k.r t ht).trans (h.r t ht),fun t ht=>(k.o t ht).trans (h.o t ht)⟩
theorem Env.but.mono {a b:Env}{mr mo mr' mo':List Nat}(h:a.but b mr mo)(h1:∀t,t∈mr→t∈mr')(h2:∀t,t∈mo→t∈mo'):a.but b mr' mo':=
 ⟨fun t ht=>h.r t fun hm=>ht (h1 t hm),fun t ht=>h.o t fun hm=>ht (h2 t hm)⟩
theorem Env.but.join (ρ ρ':Env)(lr lo:List Nat):ρ.but (ρ.join lr lo ρ') lr lo:=
 ⟨fun t ht=>by simp[Env.join,Env.put,uS,ht],fun t ht=>by simp[Env.join,Env.put,uS,ht]⟩
theorem PI.run_but {Φ:aW}{x:PI}{ρ ρ':Env}(h:x.run Φ ρ=some ρ'):ρ.but ρ' x.modR x.modO:=by
 cases x with
 |setR t e=>simp only[PI.run,bj] at h;subst h;exact⟨fun u hu=>by simp[PI.modR] at hu;simp[Env.setR,bM _ _ hu],fun _ _=>rfl⟩
 |setO t e=>simp only[PI.run,bj] at h;subst h;exact⟨fun _ _=>rfl,fun u hu=>by simp[PI.modO] at hu;simp[Env.setO,bM _ _ hu]⟩
 |chk e=>
  cases hb:(e.ev ρ).b<;>simp[PI.run,hb] at h;subst h;exact .refl _ _ _
 |call gs dst f args=>
  cases hb:holds gs ρ<;>simp[PI.run,hb] at h
  ·subst h;exact .refl _ _ _
  ·obtain⟨d,_,rfl⟩:=h;exact⟨fun u hu=>by simp[PI.modR] at hu;simp[Env.setR,bM _ _ hu],fun _ _=>rfl⟩
 |callc gs dst f args=>
  cases hb:holds gs ρ<;>simp only[PI.run,hb,cond_true,cond_false] at h
  ·cases h;exact .refl _ _ _
  ·split at h
   case h_2=>cases h
   simp only[aC] at h;obtain⟨d,_,rfl⟩:=h;exact⟨fun u hu=>by simp[PI.modR] at hu;simp[Env.setR,bM _ _ hu],fun _ _=>rfl⟩
 |mcall j f args=>
  simp[PI.run] at h;obtain⟨d,_,rfl⟩:=h;exact⟨fun _ _=>rfl,fun u hu=>by simp[PI.modO] at hu;simp[Env.setO,bM _ _ hu]⟩
theorem PI.runs_but {Φ:aW}:∀{l:List PI} {ρ ρ':Env},PI.runs Φ l ρ=some ρ'→ρ.but ρ' (l.flatMap PI.modR) (l.flatMap PI.modO)
 |[],ρ,ρ',h=>by simp[PI.runs] at h;subst h;exact .refl _ _ _
 |x::xs,ρ,ρ',h=>by
  simp only[PI.runs,aA] at h;obtain⟨ρ1,h1,h2⟩:=h;exact((PI.run_but h1).mono (by simp_all) (by simp_all)).trans ((PI.runs_but h2).mono (by simp_all) (by simp_all))
def Out.env?:Out→Option Env
 |.next ρ=>some ρ
 |.exit _ ρ=>some ρ
 |.ret _=>none
theorem atZ {body:Env→Option Out}{mr mo:List Nat}{ρ:Env}{lr lo:List Nat}
 (hb:∀ρ x ρ',body ρ=some x→x.env?=some ρ'→ρ.but ρ' mr mo) (h1:∀t,t∈lr→t∈mr) (h2:∀t,t∈lo→t∈mo):
 ∀(n:Nat) (ρ1:Env) (x:Out) (ρ':Env),iX body ρ lr lo n (lr.map ρ1.r) (lo.map ρ1.o)=some x→x.env?=some ρ'→ρ.but ρ' mr mo:=by
 intro n
 induction n with
 |zero=>intro ρ1 x ρ' h;simp[iX] at h
 |succ n ih=>
  intro ρ1 x ρ' h he;have hj:ρ.but (ρ.put lr (lr.map ρ1.r) lo (lo.map ρ1.o)) mr mo:=(Env.but.join ρ ρ1 lr lo).mono h1 h2;simp only[iX] at h;split at h
  ·rename_i ρ2 h3;exact ih ρ2 x ρ' h he
  ·rename_i h3;exact hj.trans (hb _ x ρ' h he)
theorem acr {body:Env→Option Out}{ρ:Env}{ps lo:List Nat}{rt:Option PE}:∀{xs:List D} {ρ1 x ρ'},jh body ρ ps lo rt xs (lo.map (Env.o ρ1))=some x→x.env?=some ρ'→ρ.but ρ' [] lo
 |[],ρ1,x,ρ',h,he=>by
  simp only[jh,bj] at h;subst h;simp only[Out.env?,bj] at he;subst he;exact Env.but.join ρ ρ1 [] lo
 |y::xs,ρ1,x,ρ',h,he=>by
  simp only[jh] at h;split at h
  ·exact acr h he
  ·rename_i id ρ2 _;cases hb:Nat.beq id cR<;>simp only[hb,cond_true,cond_false] at h
   ·cases h;simp only[Out.env?,bj] at he;subst he;exact Env.but.join ρ ρ2 [] lo
   ·simp only[aC] at h;obtain⟨e,_,rfl⟩:=h;simp[Out.env?] at he
  ·cases h
theorem Vx (f:Nat→D):∀(l:List Nat) (vs:List D) (t:Nat),t∉l→putL f l vs t=f t
 |[],_,_,_=>rfl
 |_::_,[],_,_=>rfl
 |i::is,v::vs,t,h=>by
  simp only[putL];rw[bM _ _ (fun e=>h (by rw[e];exact fK ..)),Vx f is vs t fun hm=>h (fy _ hm)]
theorem PC.ev_but {Φ:aW}{n:Nat}:∀(c:PC) (ρ:Env) (x:Out) (ρ':Env),c.ev Φ n ρ=some x→x.env?=some ρ'→ρ.but ρ' c.modR c.modO:=by
 intro c
 induction c with
 |skip=>intro ρ x ρ' h he;simp[PC.ev] at h;subst h;simp[Out.env?] at he;subst he;exact .refl _ _ _
 |is l=>
  intro ρ x ρ' h he;simp only[PC.ev,aC] at h;obtain⟨ρ1,h1,rfl⟩:=h;simp[Out.env?] at he;subst he;exact PI.runs_but h1
 |seq a b bH eG=>
  intro ρ x ρ' h he;simp only[PC.ev] at h;split at h
  ·rename_i ρ1 h1;exact((bH ρ _ ρ1 h1 rfl).mono (by simp_all [PC.modR]) (by simp_all [PC.modO])).trans ((eG ρ1 x ρ' h he).mono (by simp_all [PC.modR]) (by simp_all [PC.modO]))
  ·exact(bH ρ x ρ' h he).mono (by simp_all [PC.modR]) (by simp_all [PC.modO])
 |ite c lr lo a b bH eG=>
  intro ρ x ρ' h he;simp only[PC.ev] at h;split at h
  ·rename_i ρ1 h1;simp at h;subst h;simp[Out.env?] at he;subst he;exact(Env.but.join ρ ρ1 lr lo).mono (by simp_all [PC.modR]) (by simp_all [PC.modO])
  ·cases hb:(c.ev ρ).b<;>simp only[hb,cond_true,cond_false] at h
   ·exact(eG ρ x ρ' h he).mono (by simp_all [PC.modR]) (by simp_all [PC.modO])
   ·exact(bH ρ x ρ' h he).mono (by simp_all [PC.modR]) (by simp_all [PC.modO])
 |block id lr lo a bH=>
  intro ρ x ρ' h he;simp only[PC.ev] at h;split at h
  ·rename_i ρ1 h1;simp at h;subst h;simp[Out.env?] at he;subst he;exact(Env.but.join ρ ρ1 lr lo).mono (by simp_all [PC.modR]) (by simp_all [PC.modO])
  ·rename_i bS ρ1 h1;cases hb:Nat.beq bS id<;>simp only[hb,cond_true,cond_false] at h<;>simp at h<;>subst h<;>simp[Out.env?] at he<;>subst he
   ·exact(bH ρ _ ρ1 h1 rfl).mono (by simp_all [PC.modR]) (by simp_all [PC.modO])
   ·exact(Env.but.join ρ ρ1 lr lo).mono (by simp_all [PC.modR]) (by simp_all [PC.modO])
  ·exact(bH ρ x ρ' h he).mono (by simp_all [PC.modR]) (by simp_all [PC.modO])
 |loop lr lo a bH=>
  intro ρ x ρ' h he;simp only[PC.ev] at h;exact atZ (fun ρ x ρ' h he=>(bH ρ x ρ' h he).mono (by simp_all [PC.modR]) (by simp_all [PC.modO])) (by simp_all [PC.modR]) (by simp_all [PC.modO]) n ρ x ρ' h he
 |exit id=>intro ρ x ρ' h he;simp[PC.ev] at h;subst h;simp[Out.env?] at he;subst he;exact .refl _ _ _
 |ret e=>intro ρ x ρ' h he;simp[PC.ev] at h;subst h;simp[Out.env?] at he
 |each e ps lo rt a bH=>intro ρ x ρ' h he;simp only[PC.ev] at h;exact acr h he
 |meach J ps dj lo a bH=>
  intro ρ x ρ' h he;simp only[PC.ev,CU] at h;obtain⟨vo,_,rfl⟩:=h;simp only[Out.env?,bj] at he;subst he;exact⟨fun _ _=>rfl,fun t ht=>Vx _ _ _ _ ht⟩
end Cx
namespace Cx
open Go
inductive AgC where
 |dat (t:Ty)
 |obj (j ver:Nat)
 deriving Inhabited
inductive Sh where
 |none
 |dat (t:Ty)
 |obj (j ver:Nat)
 |ptr (j ver off:Nat)
 |eptr (j ver size off:Nat)
 |opt (gs:List (Nat×Bool)) (s:Sh)
 /--p8 function Dy aJs DF is yielded-/
 |yv
 /--a closure of a function Dy has captured boxes aBZ P7 still ahX own-/
 |fclo (f:Nat) (caps:List (Nat×Nat))
 /--a struct Dy was read aa it atU:rows and maps in it P7 still ahX own-/
 |agg (l:List AgC)
 deriving Inhabited
def AgC.sh:AgC→Sh
 |.dat t=>.dat t
 |.obj j ver=>.obj j ver
inductive Ob where
 |dead
 |fz (t:Ty)
 |fbox (t:Ty)
 |box (ag:Bool) (shs:List Sh)
 |row (T:TypeId) (e:Ty)
 |mp (kt et:Ty)
 /--an iterator over a map Dy is ahX own-/
 |it (kt et:Ty)
 /--DF has abD yielded so far-/
 |tr
 deriving Inhabited
structure St where
 r:Nat→Sh
 o:Nat→Ob
 ver:Nat→Nat
def St.setR (S:St)(t:Nat)(s:Sh):St:={S with r:=cd S.r t s}
def St.setO (S:St)(j:Nat)(ob:Ob):St:={S with o:=cd S.o j ob}
def St.newO (S:St)(j:Nat)(ob:Ob):St:={S with o:=cd S.o j ob,ver:=cd S.ver j (S.ver j+1)}
inductive RC where
 |dat (t:Ty)
 |row (T:TypeId) (e:Ty)
 deriving Inhabited
inductive Mode where
 |dat
 |row (T:TypeId) (e:Ty)
 /--an iterator:DF it has yielded atU in this place-/
 |it (J:Nat)
 /--p8 result is a struct with rows of p8 amm own-/
 |rows (l:List RC)
 /--a function Dy is handed p8 amm own objects:p8 aI4 of its aII,p8 objects-/
 |ob (shs:List Sh) (obs:List (Nat×Ob))
 deriving Inhabited
structure Sig where
 args:List Ty
 res:Ty
 mode:Mode
 deriving Inhabited
structure Ctx where
 P:Program
 cap:Nat→Option CSig
 sig:Nat→Option Sig
 avB:Nat→Option (TypeId×Ty×List Ty)
 glob:Nat→Option (Ty×D)
 /--ajA to aBZ no slice or map is assigned but aa a datum-/
 fr:List Nat:=[]
 /--fields of boxes Dy stay nil aJt aI9 is aFi-/
 nh:List Nat:=[]
 /--an iterator:p8 place of DF has abD yielded,and p8 types of DF it aCl;to aJA it aCl-/
 yl:Option (Nat×List Ty):=none
 yv:Value:=undef
def Ty.flat:Ty→List Ty
 |.agg ts=>ts
 |.trm=>[.int .i64,.int .i64,.slice .trm]
 |t=>[t]
def uK (P:Program)(e:TypeId):Bool:=
 match P.underlying e with
 |some (.struct fs)=>
  match fs.toList with
  |[f0,f1,f2]=>
   (match P.underlying f0.type with|some (.int .i64)=>true|_=>false)&&(match P.underlying f1.type with|some (.int .i64)=>true|_=>false)&&
   (match P.underlying f2.type with|some (.slice e')=>Nat.beq e' e|_=>false)&&
   Nat.beq f0.offset 0&&Nat.beq f1.offset 1&&Nat.beq f2.offset 2&&Nat.beq (P.cellsOf f0.type) 1&&Nat.beq (P.cellsOf f1.type) 1&&Nat.beq (P.cellsOf f2.type) 1&&Nat.beq (P.cellsOf e) 3
  |_=>false
 |_=>false
def rL (P:Program):Nat→TypeId→Option Ty
 |0,_=>Option.none
 |n+1,t=>
  match P.underlying t with
  |some .bool=>some .bool
  |some (.int k)=>some (.int k)
  |some .string=>some .str
  |some (.slice e)=>bif uK P e then some (.slice .trm) else(rL P n e).map .slice
  |some (.map k e)=>(rL P n k).bind fun k=>(rL P n e).map (.map k)
  |some (.pointer e)=>(rL P n e).map .ref
  |some (.func ps rs false)=>
   (ps.toList.mapM (rL P n)).bind fun ps=>
    match rs.toList with
    |[]=>some (.fn ps (.tup []))
    |[r]=>(rL P n r).map (.fn ps)
    |rs=>(rs.mapM (rL P n)).map fun rs=>.fn ps (.tup rs)
  |some (.struct fs)=>(fs.toList.mapM fun f=>rL P n f.type).map fun ts=>.agg (ts.flatMap Ty.flat)
  |some (.array len e)=>(rL P n e).map fun t=>.agg ((List.replicate len t.flat).flatten)
  |some (.tuple es)=>(es.toList.mapM (rL P n)).map .tup
  |_=>Option.none
def p9 (P:Program)(t:TypeId):Option Ty:=rL P 12 t
mutual
def Ty.sub:Ty→Ty→Bool
 |.nils _,.slice _=>true
 |.nsl a,.slice b=>Ty.beq a b
 |.agg a,.agg b=>Ty.subs a b
 |.tup a,.tup b=>Ty.subs a b
 |a,b=>Ty.beq a b
def Ty.subs:List Ty→List Ty→Bool
 |[],[]=>true
 |a::aa,b::bs=>Ty.sub a b&&Ty.subs aa bs
 |_,_=>false
end
def Rg:Value→Option (Ty×D)
 |.int k n=>if k.min≤n∧n≤k.max then some (.int k,.v (.int k n)) else Option.none
 |.bool b=>some (.bool,.v (.bool b))
 |.string s=>if s.size≤maxLen then some (.str,.v (.string s)) else Option.none
 |.slice .none 0 0=>some (.nils .bool,.list [])
 |_=>Option.none
def rP:Ty→Option (Ty×D)
 |.int k=>some (.int k,.v (.int k 0))
 |.bool=>some (.bool,.v (.bool false))
 |.str=>some (.str,.v (.string ByteArray.empty))
 |.slice e=>some (.nils e,.list [])
 |.map k e=>some (.map k e,.map [])
 |.fn aa r=>some (.fn aa r,.v .nilFunc)
 |_=>Option.none
def qa:Ty→Option (Ty×D)
 |.agg ts=>(ts.mapM rP).map fun zs=>(.agg (zs.map (·.1)),.agg (zs.map (·.2)))
 |t=>rP t
def z7:Ty→Value→Bool
 |.int k,.int k' n=>k==k'&&n==0
 |.bool,.bool b=> !b
 |.str,.string s=>s.size==0
 |.slice _,.slice .none 0 0=>true
 |.map ..,.map .none=>true
 |.fn ..,.nilFunc=>true
 |_,_=>false
def DI:List Ty→List Value→Bool
 |[],[]=>true
 |t::ts,v::vs=>z7 t v&&DI ts vs
 |_,_=>false
def jV:Ty→Value→Bool
 |.agg ts,.agg vs=>DI ts vs.toList
 |.agg _,_=>false
 |t,v=>z7 t v
def OT (a b:List (Nat×Bool)):Bool:=a.all fun g=>b.any fun h=>Nat.beq g.1 h.1&&(g.2==h.2)
def rI (S:St)(gs:List (Nat×Bool))(t:Nat):Sh:=
 match S.r t with
 |.opt bP s=>bif OT bP gs then s else .none
 |s=>s
def xY (S:St)(b:PE):List Sh→Nat→Option (List Ty×List PE)
 |[],_=>some ([],[])
 |s::r,i=>
  (xY S b r (i+1)).bind fun x=>
   match s with
   |.dat t=>bif t.one then some (t::x.1,.cell b i::x.2) else Option.none
   |.obj j' ver=>
    bif Nat.beq ver (S.ver j') then
      match S.o j' with
      |.fz t=>some (t::x.1,.o j'::x.2)
      |_=>Option.none
    else Option.none
   |_=>Option.none
def use (C:Ctx)(S:St)(gs:List (Nat×Bool)):Operand→Option (Ty×PE)
 |.tmp t=>
  match rI S gs t with
  |.dat ty=>some (ty,.r t)
  |.obj j ver=>
   bif Nat.beq ver (S.ver j) then
        match S.o j with
        |.fz ty=>some (ty,.o j)
        |_=>Option.none
   else Option.none
  |.ptr j ver off=>
   bif Nat.beq ver (S.ver j)&&Nat.beq off 0 then
        match S.o j with
        |.fbox ty=>some (.ref ty,.ref (.o j))
        |_=>Option.none
   else Option.none
  |.agg l=>(xY S (.r t) (l.map AgC.sh) 0).map fun x=>(.agg x.1,.mk x.2)
  |_=>Option.none
 |.const v=>(Rg v).map fun x=>(x.1,.con x.2)
 |.func f=>match C.cap f with
  |some ⟨[],aa,r⟩=>some (.fn aa r,.con (.clo f []))
  |_=>Option.none
 |.global g=>(C.glob g).map fun x=>(.ref x.1,.con (.ref x.2))
def view (C:Ctx)(S:St)(gs:List (Nat×Bool))(x:Operand):Option (Ty×PE):=
 match use C S gs x with
 |some r=>some r
 |Option.none=>
  match x with
  |.tmp t=>
   match rI S gs t with
   |.obj j ver=>
    bif Nat.beq ver (S.ver j) then
          match S.o j with
          |.row _ e=>some (.slice e.rol,.o j)
          |.mp k e=>some (.map k e,.o j)
          |_=>Option.none
    else Option.none
   |_=>Option.none
  |_=>Option.none
abbrev jC:=Option (Sh×List PI)
def Jf:BinOp→Bool
 |.add|.sub|.mul|.quo|.rem|.and|.or|.xor|.andNot=>true
 |_=>false
def BE:BinOp→Bool
 |.eql|.neq|.lss|.leq|.gtr|.geq=>true
 |_=>false
def sc (gs:List (Nat×Bool))(e:PE):PI:=.chk (match gs with|[]=>e|_=>.imp gs e)
def om:Int:=4294967296
def y9:Nat:=32768
def TY (n:PE):PE:=.an (.ci .geq n (.con (.int 0))) (.ci .leq n (.con (.int om)))
def u9 (inf:TypeInfo)(t:Ty):Bool:=
 match inf.zero with
 |some v=>jV t v
 |Option.none=>false
def sk (P:Program)(T:TypeId)(e:Ty):Bool:=
 match P.info? T with
 |some i=>Nat.beq i.size e.size&&Nat.ble i.bytes y9&&Nat.ble 1 e.size&&u9 i e
 |Option.none=>false
def tu (P:Program)(T:TypeId)(e:Ty):Bool:=
 match P.info? T with
 |some i=>Nat.beq i.size e.size
 |Option.none=>false
def qZ (P:Program)(T:TypeId):Option Bool:=
 match P.underlying T with
 |some (.struct _)=>some true
 |some (.array ..)=>some true
 |some _=>some false
 |Option.none=>Option.none
def TP (P:Program)(T:TypeId):Bool:=
 match P.underlying T with
 |some .bool=>true
 |_=>false
def gD (S:St)(gs:List (Nat×Bool)):Operand→Sh
 |.tmp t=>rI S gs t
 |_=>.none
def tn:Operand→PE
 |.tmp t=>.r t
 |_=>.con .none
def aak (C:Ctx)(S:St)(gs:List (Nat×Bool)):Option Operand→Option (Ty×PE)
 |Option.none=>some (Ty.int .i64,PE.con (.int 0))
 |some l=>use C S gs l
def aaj (C:Ctx)(S:St)(gs:List (Nat×Bool))(e:PE):Option Operand→Option (Ty×PE)
 |Option.none=>some (Ty.int .i64,PE.llen e)
 |some l=>use C S gs l
def zo (C:Ctx)(S:St)(gs:List (Nat×Bool))(dst:Nat)(x:Operand):jC:=
 match use C S gs x with
 |some a=>some (.dat a.1,[.setR dst a.2])
 |Option.none=>
  match x with
  |.tmp t=>
   match rI S gs t with
   |.none=>Option.none
   |.opt ..=>Option.none
   |s=>some (s,[.setR dst (.r t)])
  |_=>Option.none
def Vh (C:Ctx)(S:St)(gs:List (Nat×Bool))(dst:Nat)(c x y:Operand):jC:=
 match c with
 |.tmp t=>
  match rI S gs t with
  |.dat .bool=>
   (use C S ((t,true)::gs) x).bind fun a=>(use C S ((t,false)::gs) y).bind fun b=>
     bif Ty.beq a.1 b.1 then some (.dat a.1,[.setR dst (.pick (.r t) a.2 b.2)]) else Option.none
  |_=>Option.none
 |_=>Option.none
def mQ (P:Program)(K:TypeId):Ty→Bool
 |.int _=>match P.underlying K with|some (.int _)=>true|_=>false
 |.str=>match P.underlying K with|some .string=>true|_=>false
 |.bool=>match P.underlying K with|some .bool=>true|_=>false
 |_=>false
def afe (P:Program)(K:TypeId):Ty→Bool:=fun _=>false
def wg (P:Program)(K:TypeId)(t:Ty):Bool:=mQ P K t||afe P K t
def yg:Ty→PE→PE→Option PE
 |.int _,x,y=>some (.ci .eql x y)
 |.bool,x,y=>some (.cb .eql x y)
 |.str,x,y=>some (.cs .eql x y)
 |_,_,_=>Option.none
def ye (P:Program)(x y:PE)(b:Nat):List Field→Nat→List Ty→Option PE
 |[],_,[]=>some (.con (.v (.bool true)))
 |f::fs,i,t::ts=>
  bif (f.name != "_")&&Nat.beq f.offset i&&mQ P f.type t&&P.plainKey f.type then
   (yg t (.cell x (b+i)) (.cell y (b+i))).bind fun e=>(ye P x y b fs (i+1) ts).map fun r=>.an e r
  else Option.none
 |_,_,_=>Option.none
def atr (P:Program)(f:Field)(i:Nat):Option Nat:=none
def yf (P:Program)(x y:PE):List Field→Nat→List Ty→Option PE
 |[],_,[]=>some (.con (.v (.bool true)))
 |f::fs,i,ts=>
  match atr P f i with
  |some n=>bif Nat.ble n ts.length then(ye P x y i (P.fieldsOf f.type).toList 0 (ts.take n)).bind fun e=>(yf P x y fs (i+n) (ts.drop n)).map fun r=>.an e r else Option.none
  |none=>
   match ts with
   |t::ts=>
    bif (f.name != "_")&&Nat.beq f.offset i&&mQ P f.type t&&P.plainKey f.type then
     (yg t (.cell x i) (.cell y i)).bind fun e=>(yf P x y fs (i+1) ts).map fun r=>.an e r
    else Option.none
   |[]=>Option.none
 |[],_,_::_=>Option.none
def Ry (P:Program)(T:TypeId):Bool:=(match P.underlying T with|some (.struct _)=>true|_=>false)&& !P.stoodInHeld T&& !P.eqGuardType P.depth T
def U5 (C:Ctx)(S:St)(gs:List (Nat×Bool))(dst:Nat)(op:BinOp)(T:TypeId)(x y:Operand):jC:=
 (use C S gs x).bind fun a=>(use C S gs y).bind fun b=>
    match a.1,b.1 with
    |.int k,.int k'=>
     bif op==.shl||op==.shr then some (.dat (.int k),[sc gs (.ci .geq b.2 (.con (.int 0))),.setR dst (.ai op k a.2 b.2)])
     else bif k==k' then
      bif op==.quo||op==.rem then some (.dat (.int k),[sc gs (.ci .neq b.2 (.con (.int 0))),.setR dst (.ai op k a.2 b.2)])
      else bif Jf op then some (.dat (.int k),[.setR dst (.ai op k a.2 b.2)])
      else bif BE op then some (.dat .bool,[.setR dst (.ci op a.2 b.2)])
      else Option.none
     else Option.none
    |.bool,.bool=>bif (op==.eql||op==.neq)&&TP C.P T then some (.dat .bool,[.setR dst (.cb op a.2 b.2)]) else Option.none
    |.str,.str=>bif BE op then some (.dat .bool,[.setR dst (.cs op a.2 b.2)]) else Option.none
    |.nsl _,.nils _=>(match C.P.underlying T with|some (.slice _)=>bif op==.eql||op==.neq then some (.dat .bool,[.setR dst (.ci op (.llen a.2) (.con (.int 0)))]) else Option.none|_=>Option.none)
    |.agg ts,.agg us=>bif (op==.eql||op==.neq)&&Ty.beqs ts us&&Ry C.P T then(yf C.P a.2 b.2 (C.P.fieldsOf T).toList 0 ts).map fun e=>(.dat .bool,[.setR dst (bif op==.eql then e else .nt e)]) else Option.none
    |_,_=>Option.none
def Vj (C:Ctx)(S:St)(gs:List (Nat×Bool))(dst:Nat)(op:UnOp)(x:Operand):jC:=
 (use C S gs x).bind fun a=>
    match op,a.1 with
    |.neg,.int k=>some (.dat (.int k),[.setR dst (.ai .sub k (.con (.v (.int k 0))) a.2)])
    |.not,.bool=>some (.dat .bool,[.setR dst (.nt a.2)])
    |_,_=>Option.none
def U7 (C:Ctx)(S:St)(gs:List (Nat×Bool))(dst:Nat)(s d:TypeId)(x:Operand):jC:=
 (use C S gs x).bind fun a=>
    match C.P.underlying s,C.P.underlying d,a.1 with
    |some (.int _),some (.int k),.int _=>some (.dat (.int k),[.setR dst (.conv k a.2)])
    |some .string,some .string,.str=>some (.dat .str,[.setR dst a.2])
    |_,_,_=>Option.none
def Ve (C:Ctx)(S:St)(gs:List (Nat×Bool))(dst:Nat)(T:TypeId)(x:Operand):jC:=
 (view C S gs x).bind fun a=>
    match a.1,C.P.underlying T with
    |.slice _,some (.slice _)=>some (.dat (.int .i64),[.setR dst (.llen a.2)])
    |.nils _,some (.slice _)=>some (.dat (.int .i64),[.setR dst (.llen a.2)])
    |.str,some .string=>some (.dat (.int .i64),[.setR dst (.slen a.2)])
    |.map ..,some (.map ..)=>some (.dat (.int .i64),[.setR dst (.mlen a.2)])
    |_,_=>Option.none
def M6 (C:Ctx)(S:St)(gs:List (Nat×Bool))(dst:Nat)(mx:Bool)(x y:Operand):jC:=
 (use C S gs x).bind fun a=>(use C S gs y).bind fun b=>
    match a.1,b.1 with
    |.int k,.int k'=>bif k==k' then some (.dat (.int k),[.setR dst (bif mx then .mx a.2 b.2 else .mn a.2 b.2)]) else Option.none
    |_,_=>Option.none
def wz (ag:Bool)(n:Nat)(ts:List Ty)(off:Nat):Option Ty:=
 bif Nat.ble (off+n) ts.length then
    bif ag then some (.agg ((ts.drop off).take n))
    else bif Nat.beq n 1 then ts[off]? else Option.none
 else Option.none
def CS (ag:Bool)(n:Nat)(e:PE)(off:Nat):PE:=bif ag then .sub e off n else .cell e off
def ab7:List Sh→Option (List Ty)
 |[]=>some []
 |.dat t::r=>(ab7 r).map (t::·)
 |_=>Option.none
def agB (C:Ctx)(j:Nat):Bool:=C.fr.any (Nat.beq (1000000+j))
def Jd (S:St):List Sh→Option (List AgC)
 |[]=>some []
 |s::r=>
  (Jd S r).bind fun x=>
   match s with
   |.dat t=>bif t.one then some (.dat t::x) else Option.none
   |.obj j ver=>bif Nat.beq ver (S.ver j) then some (.obj j ver::x) else Option.none
   |_=>Option.none
def GF (C:Ctx)(S:St)(gs:List (Nat×Bool))(dst:Nat)(T:TypeId)(x:Operand):jC:=
 match C.P.info? T,qZ C.P T with
 |some inf,some ag=>
  match gD S gs x with
  |.ptr j ver off=>
   bif Nat.beq ver (S.ver j) then
    match S.o j with
    |.box _ shs=>
     bif ag then
          bif Nat.ble (off+inf.size) shs.length then
           (xY S (.o j) ((shs.drop off).take inf.size) off).map fun x=>(.dat (.agg x.1),[.setR dst (.mk x.2)])
          else Option.none
     else
          match shs[off]? with
          |some (.dat ty)=>bif ty.one then some (.dat ty,[.setR dst (.cell (.o j) off)]) else Option.none
          |some (.obj j' tA)=>some (.obj j' tA,[.setR dst (.con .none)])
          |_=>Option.none
    |.fbox (.agg ts)=>(wz ag inf.size ts off).map fun ty=>(.dat ty,[.setR dst (CS ag inf.size (.o j) off)])
    |.fbox ty=>bif !ag&&ty.one&&Nat.beq off 0 then some (.dat ty,[.setR dst (.o j)]) else Option.none
    |_=>Option.none
   else Option.none
  |.eptr j ver size off=>
   bif Nat.beq ver (S.ver j) then
    match S.o j with
    |.row _ (.agg ts)=>
     bif Nat.beq size ts.length then(wz ag inf.size ts off).map fun ty=>(.dat ty,[.setR dst (CS ag inf.size (.nth (.o j) (tn x)) off)])
     else Option.none
    |.row _ e=>bif !ag&&e.one&&Nat.beq off 0&&Nat.beq size 1 then some (.dat e,[.setR dst (.nth (.o j) (tn x))]) else Option.none
    |_=>Option.none
   else Option.none
  |_=>
   (use C S gs x).bind fun a=>
    match a.1 with
    |.ref ty=>bif Nat.beq inf.size ty.size&&(ag==ty.rowT) then some (.dat ty,[.setR dst (.deref a.2)]) else Option.none
    |_=>Option.none
 |_,_=>Option.none
def E3 (P:Program)(T:TypeId)(i:Nat):Option Field:=
 match P.underlying T with
 |some (.struct fs)=>fs[i]?
 |_=>Option.none
def Va (C:Ctx)(S:St)(gs:List (Nat×Bool))(dst:Nat)(T:TypeId)(x:Operand)(i:Nat):jC:=
 (E3 C.P T i).bind fun f=>
    match C.P.info? f.type,qZ C.P f.type with
    |some inf,some ag=>
     bif Nat.beq inf.size 0 then Option.none else
     match gD S gs x with
     |.eptr j ver size off=>bif Nat.beq ver (S.ver j) then some (.eptr j ver size (off+f.offset),[.setR dst (tn x)]) else Option.none
     |s=>
      match use C S gs x with
      |some (.ref (.agg ts),e)=>(wz ag inf.size ts f.offset).map fun ty=>(.dat (.ref ty),[.setR dst (.ref (CS ag inf.size (.deref e) f.offset))])
      |_=>
       match s with
       |.ptr j ver off=>bif Nat.beq ver (S.ver j) then some (.ptr j ver (off+f.offset),[.setR dst (.con .none)]) else Option.none
       |_=>Option.none
    |_,_=>Option.none
def U9 (C:Ctx)(S:St)(gs:List (Nat×Bool))(dst:Nat)(T:TypeId)(x:Operand)(i:Nat):jC:=
 (E3 C.P T i).bind fun f=>
    match C.P.info? f.type,qZ C.P f.type with
    |some inf,some ag=>
     match use C S gs x with
     |some (.agg ts,e)=>(wz ag inf.size ts f.offset).map fun ty=>(.dat ty,[.setR dst (CS ag inf.size e f.offset)])
     |_=>Option.none
    |_,_=>Option.none
def Vd (C:Ctx)(S:St)(gs:List (Nat×Bool))(dst:Nat)(T:TypeId)(x i:Operand):jC:=
 match C.P.underlying T with
 |some (.slice e)=>
  (use C S gs i).bind fun n=>
    match n.1 with
    |.int _=>
     match use C S gs x with
     |some (.slice t,pe)=>bif tu C.P e t then some (.dat (.ref t.unf),[sc gs (.idx pe n.2),.setR dst (.ref (.nth pe n.2))]) else Option.none
     |some _=>Option.none
     |Option.none=>
      match gD S gs x with
      |.obj j ver=>
       bif Nat.beq ver (S.ver j) then
        match S.o j with
        |.row _ t=>bif tu C.P e t then some (.eptr j ver t.size 0,[sc gs (.idx (.o j) n.2),.setR dst n.2]) else Option.none
        |_=>Option.none
       else Option.none
      |_=>Option.none
    |_=>Option.none
 |_=>Option.none
def Vc (C:Ctx)(S:St)(gs:List (Nat×Bool))(dst:Nat)(T:TypeId)(x i:Operand):jC:=
 match C.P.underlying T with
 |some .string=>
  (use C S gs i).bind fun n=>(use C S gs x).bind fun a=>
    match n.1,a.1 with
    |.int _,.str=>some (.dat (.int .u8),[sc gs (.sok a.2 n.2),.setR dst (.sidx a.2 n.2)])
    |_,_=>Option.none
 |_=>Option.none
def U8 (C:Ctx)(S:St)(gs:List (Nat×Bool))(dst:Nat)(x:Operand)(i:Nat):jC:=
 (use C S gs x).bind fun a=>
    match a.1 with
    |.tup ts=>(ts[i]?).map fun t=>(.dat t,[.setR dst (.tget a.2 i)])
    |_=>Option.none
def Vf (C:Ctx)(S:St)(gs:List (Nat×Bool))(dst:Nat)(T:TypeId)(m k:Operand)(ok:Bool):jC:=
 match C.P.underlying T with
 |some (.map K E)=>
  (view C S gs m).bind fun a=>(use C S gs k).bind fun b=>
    match a.1 with
    |.map kt et=>
     match qa et,C.P.info? E with
     |some z,some inf=>
      bif Ty.beq b.1 kt&&wg C.P K kt&&Ty.sub z.1 et&&u9 inf et then
          bif ok then some (.dat (.tup [et,.bool]),[.setR dst (.tup [.look a.2 b.2 (.con z.2),.has a.2 b.2])])
          else some (.dat et,[.setR dst (.look a.2 b.2 (.con z.2))])
      else Option.none
     |_,_=>Option.none
    |_=>Option.none
 |_=>Option.none
def ae1:Operand→Bool|.global _=>true|_=>false
def Vi (C:Ctx)(S:St)(gs:List (Nat×Bool))(dst:Nat)(T:TypeId)(x:Operand)(lo hi mx:Option Operand):jC:=
 match C.P.underlying T,mx with
 |some (.slice e),Option.none=>
  (use C S gs x).bind fun a=>
    match a.1 with
    |.slice t=>
     (aak C S gs lo).bind fun l=>
     (aaj C S gs a.2 hi).bind fun h=>
        match l.1,h.1 with
        |.int _,.int _=>bif tu C.P e t then some (.dat (.slice t),[sc gs (.slok a.2 l.2 h.2),.setR dst (.slc a.2 l.2 h.2)]) else Option.none
        |_,_=>Option.none
    |_=>Option.none
 |some (.array n e),Option.none=>
  match lo,hi with
  |Option.none,Option.none=>
   (use C S gs x).bind fun a=>
     match a.1 with
     |.ref (.agg (t::ts))=>bif Nat.beq n (ts.length+1)&&ts.all (Ty.beq t)&&t.one&&tu C.P e t&&Nat.ble n maxLen&&(ae1 x|| !Ty.beq t (.int .i64)) then some (.dat (.slice t),[.setR dst (.lst ((List.range n).map fun i=>.cell (.deref a.2) i))]) else Option.none
     |_=>Option.none
  |_,_=>Option.none
 |_,_=>Option.none
def rN (C:Ctx)(S:St)(gs:List (Nat×Bool)):List Operand→Option (List Ty×List PE)
 |[]=>some ([],[])
 |x::xs=>(use C S gs x).bind fun a=>(rN C S gs xs).map fun r=>(a.1::r.1,a.2::r.2)
def Vb (C:Ctx)(S:St)(gs:List (Nat×Bool))(dst:Nat)(fn:Fn)(first caps:Array Operand):jC:=
 match fn,first.toList with
 |.func f,[]=>
  (C.cap f).bind fun cs=>(rN C S gs caps.toList).bind fun a=>bif Ty.subs a.1 cs.caps then some (.dat (.fn cs.args cs.res),[.setR dst (.clo f a.2)]) else Option.none
 |_,_=>Option.none
def rowOf (ag:Bool)(cs:List Value):Value:=if ag then .agg cs.toArray else cs.getD 0 undef
def TQ:Ob→Bool
 |.row ..=>true
 |_=>false
def CR (C:Ctx)(S:St)(gs:List (Nat×Bool))(ft:Ty)(x:Operand):Option (List AgC×PE):=
 match use C S gs x with
 |some a=>bif Ty.sub a.1 ft&&(a.1.rowT||a.1.one) then some (a.1.flat.map .dat,a.2) else Option.none
 |Option.none=>
  match gD S gs x with
  |.obj j ver=>bif Nat.beq ver (S.ver j)&&TQ (S.o j)&&Nat.beq ft.size 1 then some ([.obj j ver],.con (.bool false)) else Option.none
  |_=>Option.none
def ae0:AgC→Bool
 |.dat _=>true
 |_=>false
def AgC.ty:AgC→Ty
 |.dat t=>t
 |_=>.bool
def nw (C:Ctx)(S:St)(gs:List (Nat×Bool))(zs:List Value)(parts:List (Nat×Operand)):List Field→Nat→Nat→Option (List AgC×List PE)
 |[],_,off=>bif Nat.beq off zs.length then some ([],[]) else Option.none
 |f::fs,i,off=>
  match C.P.info? f.type,p9 C.P f.type with
  |some inf,some ft=>
   bif Nat.beq f.offset off&&Nat.beq inf.size ft.size then
    (nw C S gs zs parts fs (i+1) (off+inf.size)).bind fun r=>
       match parts.find? fun p=>Nat.beq p.1 i with
       |some p=>(CR C S gs ft p.2).map fun a=>(a.1++r.1,a.2::r.2)
       |Option.none=>bif jV ft (rowOf ft.rowT ((zs.drop off).take inf.size)) then(qa ft).map fun z=>(z.1.flat.map .dat++r.1,.con z.2::r.2) else Option.none
   else Option.none
  |_,_=>Option.none
def kf:List Nat→Bool
 |[]=>true
 |a::r=> !(r.any (Nat.beq a))&&kf r
def U6 (C:Ctx)(S:St)(gs:List (Nat×Bool))(dst:Nat)(T:TypeId)(parts:List (Nat×Operand)):jC:=
 match C.P.underlying T,C.P.info? T with
 |some (.struct fs),some inf=>
  match inf.zero with
  |some (.agg zs)=>
   bif kf (parts.map (·.1))&&parts.all (fun p=>Nat.blt p.1 fs.size) then
    (nw C S gs zs.toList parts fs.toList 0 0).map fun r=>(bif r.1.all ae0 then .dat (.agg (r.1.map AgC.ty)) else .agg r.1,[.setR dst (.mk r.2)])
   else Option.none
  |_=>Option.none
 |_,_=>Option.none
def Vg (C:Ctx)(S:St)(gs:List (Nat×Bool))(dst:Nat)(x:Operand):jC:=
 match use C S gs x with
 |some (.ref t,e)=>some (.dat (.ref t),[.setR dst e])
 |_=>
  match x with
  |.tmp t=>
   match rI S gs t with
   |.ptr j ver off=>bif Nat.beq ver (S.ver j) then some (.ptr j ver off,[.setR dst (.con .none)]) else Option.none
   |.eptr j ver sz off=>bif Nat.beq ver (S.ver j) then some (.eptr j ver sz off,[.setR dst (.r t)]) else Option.none
   |_=>Option.none
  |_=>Option.none
def M7 (C:Ctx)(S:St)(gs:List (Nat×Bool))(dst:Nat):Op→jC
 |.move x=>zo C S gs dst x
 |.pick c x y=>Vh C S gs dst c x y
 |.binOp op T x y _=>U5 C S gs dst op T x y
 |.unOp op _ x=>Vj C S gs dst op x
 |.convert s d x=>U7 C S gs dst s d x
 |.load T x=>GF C S gs dst T x
 |.fieldAddr T x i=>Va C S gs dst T x i
 |.field T x i=>U9 C S gs dst T x i
 |.indexAddr T x i=>Vd C S gs dst T x i
 |.index T x i=>Vc C S gs dst T x i
 |.extract x i=>U8 C S gs dst x i
 |.lookup T m k ok=>Vf C S gs dst T m k ok
 |.slice T x lo hi mx=>Vi C S gs dst T x lo hi mx
 |.makeFunc f a b=>Vb C S gs dst f a b
 |.build T ps=>U6 C S gs dst T ps.toList
 |.nilCheck x=>Vg C S gs dst x
 |.makeInterface _ _=>some (.dat .bool,[sc gs (.nt (.con (.bool true))),.setR dst (.con .none)])
 |.call c=>
  match c.callee,c.args.toList,c.argTypes.toList with
  |.builtin .len,[x],[T]=>Ve C S gs dst T x
  |.builtin .min,[x,y],_=>M6 C S gs dst false x y
  |.builtin .max,[x,y],_=>M6 C S gs dst true x y
  |_,_,_=>Option.none
 |_=>Option.none
def xX:List (Nat×Nat)→List (Nat×Nat)→Bool
 |[],[]=>true
 |x::a,y::b=>Nat.beq x.1 y.1&&Nat.beq x.2 y.2&&xX a b
 |_,_=>false
theorem QY:∀a b,xX a b=true→a=b
 |[],[],_=>rfl
 |[],_::_,h=>by simp[xX] at h
 |_::_,[],h=>by simp[xX] at h
 |(x,u)::a,(y,v)::b,h=>by
  simp only[xX,aw] at h;rw[aD h.1.1,aD h.1.2,QY a b h.2]
def qs:List AgC→List AgC→Bool
 |[],[]=>true
 |.dat t::a,.dat u::b=>Ty.beq t u&&qs a b
 |.obj j v::a,.obj k u::b=>Nat.beq j k&&Nat.beq v u&&qs a b
 |_,_=>false
theorem P4:∀a b,qs a b=true→a=b
 |[],[],_=>rfl
 |.dat t::a,.dat u::b,h=>by
  simp only[qs,aw] at h;rw[Ty.beq_eq _ _ h.1,P4 a b h.2]
 |.obj j v::a,.obj k u::b,h=>by
  simp only[qs,aw] at h;rw[aD h.1.1,aD h.1.2,P4 a b h.2]
 |[],_::_,h=>by simp[qs] at h
 |.dat _::_,[],h=>by simp[qs] at h
 |.obj ..::_,[],h=>by simp[qs] at h
 |.dat _::_,.obj ..::_,h=>by simp[qs] at h
 |.obj ..::_,.dat _::_,h=>by simp[qs] at h
def uq:List (Nat×Bool)→List (Nat×Bool)→Bool
 |[],[]=>true
 |(a,x)::aa,(b,y)::bs=>Nat.beq a b&&(x==y)&&uq aa bs
 |_,_=>false
def Sh.beq:Sh→Sh→Bool
 |.none,.none=>true
 |.dat a,.dat b=>Ty.beq a b
 |.obj j v,.obj k u=>Nat.beq j k&&Nat.beq v u
 |.ptr j v o,.ptr k u p=>Nat.beq j k&&Nat.beq v u&&Nat.beq o p
 |.eptr j v s o,.eptr k u t p=>Nat.beq j k&&Nat.beq v u&&Nat.beq s t&&Nat.beq o p
 |.opt gs s,.opt hs t=>uq gs hs&&Sh.beq s t
 |.yv,.yv=>true
 |.fclo f a,.fclo g b=>Nat.beq f g&&xX a b
 |.agg a,.agg b=>qs a b
 |_,_=>false
def zR:List Sh→List Sh→Bool
 |[],[]=>true
 |a::aa,b::bs=>Sh.beq a b&&zR aa bs
 |_,_=>false
def Ob.beq:Ob→Ob→Bool
 |.dead,.dead=>true
 |.fz a,.fz b=>Ty.beq a b
 |.fbox a,.fbox b=>Ty.beq a b
 |.box x a,.box y b=>(x==y)&&zR a b
 |.row T a,.row U b=>Nat.beq T U&&Ty.beq a b
 |.mp a b,.mp c d=>Ty.beq a c&&Ty.beq b d
 |.it a b,.it c d=>Ty.beq a c&&Ty.beq b d
 |.tr,.tr=>true
 |_,_=>false
def CM:List Ob→List Ob→Bool
 |[],[]=>true
 |a::aa,b::bs=>Ob.beq a b&&CM aa bs
 |_,_=>false
theorem Ff:∀a b,uq a b=true→a=b
 |[],[],_=>rfl
 |(a,x)::aa,(b,y)::bs,h=>by
  simp only[uq,aw,beq_iff_eq] at h;rw[aD h.1.1,h.1.2,Ff aa bs h.2]
 |[],_::_,h=>by simp[uq] at h
 |(_,_)::_,[],h=>by simp[uq] at h
theorem Sh.beq_eq:∀a b:Sh,Sh.beq a b=true→a=b:=by
 intro a
 induction a with
 |opt gs s ih=>
  intro b h;cases b<;>simp only[Sh.beq,aw] at h<;>try (cases h;done)
  rw[Ff _ _ h.1,ih _ h.2]
 |none=>intro b h;cases b<;>simp[Sh.beq] at h;rfl
 |yv=>intro b h;cases b<;>simp[Sh.beq] at h;rfl
 |fclo f a=>
  intro b h;cases b<;>simp only[Sh.beq,aw] at h<;>try (cases h;done)
  rw[aD h.1,QY _ _ h.2]
 |dat t=>intro b h;cases b<;>simp only[Sh.beq] at h<;>try (cases h;done)
         rw[Ty.beq_eq _ _ h]
 |agg l=>intro b h;cases b<;>simp only[Sh.beq] at h<;>try (cases h;done)
         rw[P4 _ _ h]
 |obj j v=>
  intro b h;cases b<;>simp only[Sh.beq,aw] at h<;>try (cases h;done)
  rw[aD h.1,aD h.2]
 |ptr j v o=>
  intro b h;cases b<;>simp only[Sh.beq,aw] at h<;>try (cases h;done)
  rw[aD h.1.1,aD h.1.2,aD h.2]
 |eptr j v o=>
  intro b h;cases b<;>simp only[Sh.beq,aw] at h<;>try (cases h;done)
  rw[aD h.1.1.1,aD h.1.1.2,aD h.1.2,aD h.2]
theorem Xf:∀a b:List Sh,zR a b=true→a=b
 |[],[],_=>rfl
 |a::aa,b::bs,h=>by
  simp only[zR,aw] at h;rw[Sh.beq_eq _ _ h.1,Xf aa bs h.2]
 |[],_::_,h=>by simp[zR] at h
 |_::_,[],h=>by simp[zR] at h
theorem Ob.beq_eq:∀a b:Ob,Ob.beq a b=true→a=b:=by
 intro a b h;cases a<;>cases b<;>simp only[Ob.beq,aw,beq_iff_eq] at h<;>try (cases h;done)
 ·rfl
 ·rw[Ty.beq_eq _ _ h]
 ·rw[Ty.beq_eq _ _ h]
 ·rw[h.1,Xf _ _ h.2]
 ·rw[aD h.1,Ty.beq_eq _ _ h.2]
 ·rw[Ty.beq_eq _ _ h.1,Ty.beq_eq _ _ h.2]
 ·rw[Ty.beq_eq _ _ h.1,Ty.beq_eq _ _ h.2]
 ·rfl
theorem age:∀a b:List Ob,CM a b=true→a=b
 |[],[],_=>rfl
 |a::aa,b::bs,h=>by
  simp only[CM,aw] at h;rw[Ob.beq_eq _ _ h.1,age aa bs h.2]
 |[],_::_,h=>by simp[CM] at h
 |_::_,[],h=>by simp[CM] at h
def isNone:Sh→Bool
 |.none=>true
 |_=>false
def py:Ob→Bool
 |.dead=>true
 |_=>false
end Cx
namespace Cx
open Go Go.RowKit
section
variable (C:Ctx) (S:St) (ρ:Env) (σ:Im) (own:Nat→Option Nat) (hv:Nat→Value)
def rQ:AgC→Value→D→Prop
 |.dat t,v,d=>t.one=true∧Rep C.cap σ t v d
 |.obj j ver,v,_=>ver≤S.ver j∧(ver=S.ver j→v=hv j)
def aJ:Sh→Value→D→Prop
 |.none,_,_=>True
 |.dat t,v,d=>Rep C.cap σ t v d
 |.obj j ver,v,_=>ver≤S.ver j∧(ver=S.ver j→v=hv j)
 |.ptr j ver off,v,_=>ver≤S.ver j∧(ver=S.ver j→∃k,hv j=.pointer (some ⟨k,0,none⟩)∧v=.pointer (some ⟨k,off,none⟩))
 |.eptr j ver size off,v,d=>ver≤S.ver j∧(ver=S.ver j→∃(k n c:Nat) (ik:IntKind) (i:Nat),hv j=.slice (some ⟨k,0,none⟩) n c∧d=.v (.int ik i)∧i<n∧v=.pointer (some ⟨k,i*size+off,none⟩))
 |.yv,v,_=>v=C.yv
 |.fclo f caps,v,_=>∃vs:List Value,v=.func (.func f) #[] vs.toArray∧vs.length=caps.length∧∀(i j ver:Nat),caps[i]?=some (j,ver)→ver≤S.ver j∧(ver=S.ver j→vs.getD i undef=hv j)
 |.agg l,v,d=>∃(vs:List Value) (ds:List D),v=.agg vs.toArray∧d=.agg ds∧vs.length=l.length∧ds.length=l.length∧∀(i:Nat) (c:AgC),l[i]?=some c→rQ C S σ hv c (vs.getD i undef) (ds.getD i .none)
 |.opt gs s,v,d=>(holds gs ρ=true→aJ s v d)∧(holds gs ρ=false→v=undef)
def dy (cap:Nat→Option CSig)(σ:Im)(e:Ty)(cells:List Value)(xs:List D):Prop:=
 ∃vs:Nat→Value,(∀i x,xs[i]?=some x→Rep cap σ e (vs i) x)∧∀i j u,i<xs.length→(vs i).cells[j]?=some u→cells[i*e.size+j]?=some u
def nm (arr:Array MapEntry)(clock:Nat):Prop:=(∀(i:Nat) (e:MapEntry),arr[i]?=some e→e.born<clock)∧∀(i j:Nat) (e f:MapEntry),arr[i]?=some e→arr[j]?=some f→e.born=f.born→i=j
def hZ (es:List (D×D))(idx:List Nat):List D:=idx.map fun i=>match es[i]? with|some p=>.tup [p.1,p.2]|none=>.none
def gB (arr:Array MapEntry)(idx:List Nat):Array Nat:=(idx.map fun i=>match arr[i]? with|some e=>e.born|none=>0).toArray
def cA (w:World)(B j:Nat):Ob→Prop
 |.dead=>True
 |.tr=>True
 |.fz t=>t.one=true∧Rep C.cap σ t (hv j) (ρ.o j)
 |.fbox t=>∃k v,hv j=.pointer (some ⟨k,0,none⟩)∧Rep C.cap σ t v (ρ.o j)∧∀i u,v.cells[i]?=some u→σ.c k i=some u
 |.box _ shs=>∃k cs T ds,hv j=.pointer (some ⟨k,0,none⟩)∧own k=some j∧w.heap[k]?=some (.cells cs T (0,0))∧cs.size=shs.length∧ρ.o j=.agg ds∧ds.length=shs.length∧
   ∀i s,shs[i]?=some s→(∀gs s',s≠.opt gs s')∧aJ C S ρ σ hv s (cs.getD i undef) (ds.getD i .none)
 |.row T e=>∃cells xs,ρ.o j=.list xs∧w.ownsRow B T e.size (hv j) xs.length cells∧dy C.cap σ e cells xs∧∀k,(hv j).ownBlock=some k→own k=some j
 |.mp kt et=>∃k arr clock es,hv j=.map (some k)∧own k=some j∧w.heap[k]?=some (.map arr clock)∧ρ.o j=.map es∧es.length=arr.size∧(es.length≤maxLen∧nm arr clock)∧
   ∀(i:Nat) (e:MapEntry) (p:D×D),arr[i]?=some e→es[i]?=some p→Rep C.cap σ kt e.key p.1∧Rep C.cap σ et e.val p.2
 |.it kt et=>∃k m arr clock es idx,hv j=.pointer (some ⟨k,0,none⟩)∧own k=some j∧own m=some j∧k≠m∧w.heap[m]?=some (.map arr clock)∧w.heap[k]?=some (.mapIter (some m) clock (gB arr idx) clock)∧
   ρ.o j=.tup [.list (hZ es idx),.map es]∧idx.Nodup∧(∀i,i∈idx→i<arr.size)∧es.length=arr.size∧nm arr clock∧
   ∀(i:Nat) (e:MapEntry) (p:D×D),arr[i]?=some e→es[i]?=some p→Rep C.cap σ kt e.key p.1∧Rep C.cap σ et e.val p.2
structure Base extends Im where
 B:Nat
 /--may p8 function aGW back its result here?-/
 fin:Prop
 F:D→(Nat→Prop)→(Nat→Prop)→World→Prop
 lt:∀t fx cx w,F t fx cx w→∀k,fx k→k<w.heap.size
 sub:∀t fx cx w,F t fx cx w→∀k,cx k→fx k
 keep:∀t fx cx w w',F t fx cx w→Below 0 w w'→(∀k,fx k→w'.heap[k]?=w.heap[k]?)→F t fx cx w'
instance:Coe Base Im:=⟨Base.toIm⟩
def Base.mk0 (σ:Im)(B:Nat):Base:={σ with B:=B,fin:=True,F:=fun _ fx cx _=>(∀k,¬fx k)∧∀k,¬cx k,lt:=fun _ _ _ _ h k hk=>absurd hk (h.1 k),sub:=fun _ _ _ _ h k hk=>absurd hk (h.2 k),keep:=fun _ _ _ _ _ h _ _=>h}
def kS (σ:Im)(B:Nat):List Deferred→Prop
 |[]=>True
 |d::ds=>(∃D,d={target:=.collected D,args:=#[]}∧σ.m D=some cI∧B≤D∧d∉ds)∧kS σ B ds
theorem kS.mono {σ τ:Im}(hle:σ.le τ){B:Nat}:∀{ds:List Deferred},kS σ B ds→kS τ B ds
 |[],_=>trivial
 |_::_,⟨⟨D,h1,h2,h3⟩,h⟩=>⟨⟨D,h1,hle.m _ _ h2,h3⟩,kS.mono hle h⟩
structure FrOK (B:Nat) (σ0:Base) (w:World) (t:D) (fx cx:Nat→Prop):Prop where
 F:σ0.F t fx cx w
 own:∀k j,own k=some j→¬fx k
 c:∀k o x,σ.c k o=some x→¬cx k
 m:∀k x,σ.m k=some x→¬cx k
 d:∀k,σ.m k=some cI→B≤k→¬fx k
structure Inv (w0:World) (σ0:Base) (A:Nat→Prop) (a:Act) (w:World):Prop where
 defers:kS σ w0.heap.size a.defers
 ok:σ.ok w
 le:σ0.le σ
 old:σ0.fin→∀k,σ0.m k=some cI→k<w0.heap.size
 newc:∀k o x,σ.c k o=some x→σ0.c k o=some x∨w0.heap.size≤k
 newm:∀k es,σ.m k=some es→σ0.m k=some es∨w0.heap.size≤k
 below:Below σ0.B w0 w
 bw:σ0.B≤w0.heap.size
 owns:∀k j,own k=some j→w0.heap.size≤k∧k<w.heap.size∧(∀o,σ.c k o=none)∧σ.m k=none
 regs:∀t,aJ C S ρ σ hv (S.r t) (a.tmps.getD t undef) (ρ.r t)
 objs:∀j,cA C S ρ σ own hv w w0.heap.size j (S.o j)
 opts:∀t gs s,S.r t=.opt gs s→(∀g,g∈gs→A g.1)∧∀bP s',s≠.opt bP s'
 frame:∃t fx cx,FrOK σ own w0.heap.size σ0 w t fx cx∧∀j,S.o j=.tr→(∃ys,C.yl=some (j,ys))∧ρ.o j=t
end
def Good (C:Ctx)(w0:World)(σ0:Base)(S:St)(ρ:Env)(A:Nat→Prop)(a:Act)(w:World):Prop:=
 ∃σ own hv,Inv C S ρ σ own hv w0 σ0 A a w
structure Compat (S:St) (hv:Nat→Value) (S':St) (hv':Nat→Value):Prop where
 ver:∀j,S.ver j≤S'.ver j
 hv:∀j,S'.ver j=S.ver j→hv' j=hv j
theorem Compat.refl (S:St)(hv:Nat→Value):Compat S hv S hv:=⟨fun _=>bn _,fun _ _=>rfl⟩
theorem Compat.setO (S:St)(hv:Nat→Value)(j:Nat)(ob:Ob):Compat S hv (S.setO j ob) hv:=⟨fun _=>bn _,fun _ _=>rfl⟩
theorem St.setO_o (S:St)(j:Nat)(ob:Ob):(S.setO j ob).o j=ob:=aS _ _ _
section
variable {C:Ctx} {S S':St} {ρ ρ':Env} {σ σ':Im} {own own':Nat→Option Nat} {hv hv':Nat→Value}
theorem rQ.monoR (hσ:Im.leR C.cap σ σ')(hc:Compat S hv S' hv'):∀{c:AgC} {v:Value} {d:D},rQ C S σ hv c v d→rQ C S' σ' hv' c v d
 |.dat t,v,d,h=>⟨h.1,hσ.rep h.2⟩
 |.obj j ver,v,d,h=>by
  refine⟨dO h.1 (hc.ver j),fun e=>?_⟩;have e1:S'.ver j=S.ver j:=by have:=hc.ver j;have:=h.1;omega
  rw[hc.hv j e1];exact h.2 (by omega)
theorem aJ.monoR (hσ:Im.leR C.cap σ σ')(hc:Compat S hv S' hv'):∀{s:Sh} {v:Value} {d:D},(∀gs s',s=.opt gs s'→holds gs ρ'=holds gs ρ)→
 (∀gs s',s=.opt gs s'→∀bP Ik,s'≠.opt bP Ik)→aJ C S ρ σ hv s v d→aJ C S' ρ' σ' hv' s v d:=by
 intro s
 induction s with
 |none=>intros;trivial
 |yv=>intro v d _ _ h;exact h
 |fclo f caps=>
  intro v d _ _ h;obtain⟨vs,h1,h2,h3⟩:=h;refine⟨vs,h1,h2,fun i j ver hi=>?_⟩;obtain⟨g1,g2⟩:=h3 i j ver hi;refine⟨dO g1 (hc.ver j),fun e=>?_⟩;have e1:S'.ver j=S.ver j:=by have:=hc.ver j;omega
  rw[hc.hv j e1];exact g2 (by omega)
 |dat t=>intro v d _ _ h;exact hσ.rep h
 |agg l=>
  intro v d _ _ h;obtain⟨vs,ds,h1,h2,h3,h4,h5⟩:=h;exact⟨vs,ds,h1,h2,h3,h4,fun i c hi=>(h5 i c hi).monoR hσ hc⟩
 |obj j ver=>
  intro v d _ _ h;refine⟨dO h.1 (hc.ver j),fun e=>?_⟩;have e1:S'.ver j=S.ver j:=by have:=hc.ver j;have:=h.1;omega
  rw[hc.hv j e1];exact h.2 (by omega)
 |ptr j ver off=>
  intro v d _ _ h;refine⟨dO h.1 (hc.ver j),fun e=>?_⟩;have e1:S'.ver j=S.ver j:=by have:=hc.ver j;have:=h.1;omega
  rw[hc.hv j e1];exact h.2 (by omega)
 |eptr j ver size off=>
  intro v d _ _ h;refine⟨dO h.1 (hc.ver j),fun e=>?_⟩;have e1:S'.ver j=S.ver j:=by have:=hc.ver j;have:=h.1;omega
  rw[hc.hv j e1];exact h.2 (by omega)
 |opt gs s ih=>
  intro v d hg hn h;refine⟨fun hh=>ih (fun bP s' e=>absurd e (hn gs s rfl bP s')) (fun bP s' e=>absurd e (hn gs s rfl bP s')) (h.1 (by rw[←hg gs s rfl];exact hh)),fun hh=>h.2 (by rw[←hg gs s rfl];exact hh)⟩
theorem aJ.mono (hσ:σ.le σ')(hc:Compat S hv S' hv'){s:Sh}{v:Value}{d:D}(h1:∀gs s',s=.opt gs s'→holds gs ρ'=holds gs ρ)
 (h2:∀gs s',s=.opt gs s'→∀bP Ik,s'≠.opt bP Ik) (h:aJ C S ρ σ hv s v d):aJ C S' ρ' σ' hv' s v d:=aJ.monoR hσ.leR hc h1 h2 h
theorem aJ.monoR' (hσ:Im.leR C.cap σ σ')(hc:Compat S hv S' hv'){s:Sh}{v:Value}{d:D}(hn:∀gs s',s≠.opt gs s')(h:aJ C S ρ σ hv s v d):aJ C S' ρ' σ' hv' s v d:=
 aJ.monoR hσ hc (fun gs s' e=>absurd e (hn gs s')) (fun gs s' e=>absurd e (hn gs s')) h
theorem aJ.mono' (hσ:σ.le σ')(hc:Compat S hv S' hv'){s:Sh}{v:Value}{d:D}(hn:∀gs s',s≠.opt gs s')(h:aJ C S ρ σ hv s v d):aJ C S' ρ' σ' hv' s v d:=
 aJ.monoR' hσ.leR hc hn h
theorem dy.monoR {cap:Nat→Option CSig}(hσ:Im.leR cap σ σ'){e:Ty}{cells:List Value}{xs:List D}(h:dy cap σ e cells xs):dy cap σ' e cells xs:=by
 obtain⟨vs,h1,h2⟩:=h;exact⟨vs,fun i x hx=>hσ.rep (h1 i x hx),h2⟩
theorem dy.mono {cap:Nat→Option CSig}(hσ:σ.le σ'){e:Ty}{cells:List Value}{xs:List D}(h:dy cap σ e cells xs):dy cap σ' e cells xs:=h.monoR hσ.leR
theorem cA.monoR (hσ:Im.leR C.cap σ σ')(hc:Compat S hv S' hv'){w w':World}{B j:Nat}{ob:Ob}(hj:hv' j=hv j)(hr:ρ'.o j=ρ.o j)
 (hk:∀k,own k=some j→own' k=some j∧w'.heap[k]?=w.heap[k]?) (h:cA C S ρ σ own hv w B j ob):cA C S' ρ' σ' own' hv' w' B j ob:=by
 cases ob with
 |dead=>trivial
 |tr=>trivial
 |fz t=>exact⟨h.1,by rw[hj,hr];exact hσ.rep h.2⟩
 |fbox t=>
  obtain⟨k,v,h1,h2,h3⟩:=h;exact⟨k,v,by rw[hj];exact h1,by rw[hr];exact hσ.rep h2,fun i u hu=>hσ.c _ _ _ (h3 i u hu)⟩
 |box ag shs=>
  obtain⟨k,cs,T,ds,h1,h2,h3,h4,h5,h6,h7⟩:=h;refine⟨k,cs,T,ds,by rw[hj];exact h1,(hk k h2).1,by rw[(hk k h2).2];exact h3,h4,by rw[hr];exact h5,h6,fun i s hs=>?_⟩;obtain⟨g1,g3⟩:=h7 i s hs;exact⟨g1,g3.monoR' hσ hc g1⟩
 |row T e=>
  obtain⟨cells,xs,h1,h2,h3,h4⟩:=h;refine⟨cells,xs,by rw[hr];exact h1,?_,h3.monoR hσ,fun k hb=>(hk k (h4 k (by rw[←hj];exact hb))).1⟩;rw[hj];refine⟨h2.1,?_⟩;rcases h2.2 with h|⟨g,cap,cur,e1,e2,e3,e4⟩
  ·exact .inl h
  ·exact .inr ⟨g,cap,cur,e1,e2,by rw[(hk g (h4 g (by rw[e1];rfl))).2];exact e3,e4⟩
 |mp kt et=>
  obtain⟨k,arr,clock,es,h1,h2,h3,h4,h5,hx,h6⟩:=h;refine⟨k,arr,clock,es,by rw[hj];exact h1,(hk k h2).1,by rw[(hk k h2).2];exact h3,by rw[hr];exact h4,h5,hx,fun i e p he hp=>?_⟩;exact⟨hσ.rep (h6 i e p he hp).1,hσ.rep (h6 i e p he hp).2⟩
 |it kt et=>
  obtain⟨k,m,arr,clock,es,idx,h1,h2,h3,ay,h4,h5,h6,h7,h8,h9,jk,uu⟩:=h;refine⟨k,m,arr,clock,es,idx,by rw[hj];exact h1,(hk k h2).1,(hk m h3).1,ay,by rw[(hk m h3).2];exact h4,by rw[(hk k h2).2];exact h5,by rw[hr];exact h6,h7,h8,h9,jk,fun i e p he hp=>?_⟩;exact⟨hσ.rep (uu i e p he hp).1,hσ.rep (uu i e p he hp).2⟩
theorem cA.mono (hσ:σ.le σ')(hc:Compat S hv S' hv'){w w':World}{B j:Nat}{ob:Ob}(hj:hv' j=hv j)(hr:ρ'.o j=ρ.o j)
 (hk:∀k,own k=some j→own' k=some j∧w'.heap[k]?=w.heap[k]?) (h:cA C S ρ σ own hv w B j ob):cA C S' ρ' σ' own' hv' w' B j ob:=h.monoR hσ.leR hc hj hr hk
end
section
variable {C:Ctx} {S:St} {ρ:Env} {σ:Im} {own:Nat→Option Nat} {hv:Nat→Value} {w0:World} {σ0:Base} {A:Nat→Prop} {a:Act} {w:World}
theorem FU {gs:List (Nat×Bool)}{ρ:Env}{t:Nat}{d:D}(h:∀g,g∈gs→g.1≠t):holds gs (ρ.setR t d)=holds gs ρ:=by
 unfold holds
 induction gs with
 |nil=>rfl
 |cons g gs ih=>
  simp only[tJ];rw[ih fun x hx=>h x (fy _ hx)];simp[Env.setR,bM _ _ (h g (fK ..))]
theorem IA (a:Act)(t u:Nat)(v:Value):(a.put (some t) v).tmps.getD u undef=if u=t∧t<a.tmps.size then v else a.tmps.getD u undef:=by
 simp only[Act.put,gG,DK];by_cases h:t=u
 ·subst h;by_cases h2:t<a.tmps.size
  ·simp[h2]
  ·simp[h2]
 ·have h':¬u=t:=fun e=>h e.symm;simp[h,h']
theorem Inv.step (h:Inv C S ρ σ own hv w0 σ0 A a w){S':St}{ρ':Env}{σ':Im}{own':Nat→Option Nat}{hv':Nat→Value}{A':Nat→Prop}{a':Act}{w':World}(W:Nat→Prop)
 (hd:a'.defers=a.defers) (hσ:σ.le σ') (ax:σ'.ok w')
 (eD:∀k o x,σ'.c k o=some x→σ.c k o=some x∨(w0.heap.size≤k∧((∃j,own k=some j)∨w.heap.size≤k))) (dv:∀k es,σ'.m k=some es→σ.m k=some es∨(w0.heap.size≤k∧((∃j,own k=some j)∨w.heap.size≤k)))
 (hb:Below w0.heap.size w w') (hc:Compat S hv S' hv')
 (hW:∀j,¬W j→S'.o j=S.o j∧ρ'.o j=ρ.o j∧hv' j=hv j∧∀k,own k=some j→own' k=some j∧w'.heap[k]?=w.heap[k]?)
 (Lx:∀j,W j→cA C S' ρ' σ' own' hv' w' w0.heap.size j (S'.o j))
 (bC:∀k j,own' k=some j→w0.heap.size≤k∧k<w'.heap.size∧(∀o,σ'.c k o=none)∧σ'.m k=none)
 (hA:∀t,A t→A' t)
 (hr:∀t,(S'.r t=S.r t∧a'.tmps.getD t undef=a.tmps.getD t undef∧ρ'.r t=ρ.r t)∨
   (aJ C S' ρ' σ' hv' (S'.r t) (a'.tmps.getD t undef) (ρ'.r t)∧∀gs s,S'.r t=.opt gs s→(∀g,g∈gs→A' g.1)∧∀bP s',s≠.opt bP s'))
 (hg:∀t,A t→ρ'.r t=ρ.r t) (lW:∀k,k<w.heap.size→own k=none→w'.heap[k]?=w.heap[k]?) (hof:∀k i,own' k=some i→(∃j,own k=some j)∨w.heap.size≤k) (yV:∀j,W j→S'.o j≠.tr):Inv C S' ρ' σ' own' hv' w0 σ0 A' a' w' where
 defers:=by rw[hd];exact h.defers.mono hσ
 ok:=ax
 le:=h.le.trans hσ
 old:=h.old
 newc:=fun k o x hx=>(eD k o x hx).elim (h.newc k o x) fun e=>.inr e.1
 newm:=fun k x hx=>(dv k x hx).elim (h.newm k x) fun e=>.inr e.1
 below:=h.below.trans (hb.mono h.bw)
 bw:=h.bw
 owns:=bC
 regs:=fun t=>by
  rcases hr t with⟨h1,h2,h3⟩|h4
  ·rw[h1,h2,h3];refine aJ.mono hσ hc (fun gs s e=>?_) (fun gs s e=>(h.opts t gs s e).2) (h.regs t);unfold holds;have aO:∀g,g∈gs→ρ'.r g.1=ρ.r g.1:=fun g hm=>hg _ ((h.opts t gs s e).1 g hm);clear e
   induction gs with
   |nil=>rfl
   |cons g gs ih=>simp only[tJ];rw[ih fun x hx=>aO x (fy _ hx),aO g (fK ..)]
  ·exact h4.1
 objs:=fun j=>by
  by_cases hj:W j
  ·exact Lx j hj
  ·obtain⟨h1,h2,h3,h4⟩:=hW j hj;rw[h1];exact(h.objs j).mono hσ hc h3 h2 h4
 opts:=fun t gs s e=>by
  rcases hr t with⟨h1,h2,h3⟩|h4
  ·obtain⟨g1,g2⟩:=h.opts t gs s (by rw[←h1];exact e);exact⟨fun g hm=>hA _ (g1 g hm),g2⟩
  ·exact h4.2 gs s e
 frame:=by
  obtain⟨t,fx,cx,hf,h4⟩:=h.frame;have af:=σ0.lt _ _ _ _ hf.F;have nU:∀k,(∃j,own k=some j)∨w.heap.size≤k→¬fx k:=by
   rintro k (⟨j,hj⟩|hk) LL
   ·exact hf.own k j hj LL
   ·have:=af k LL;omega
  refine⟨t,fx,cx,⟨σ0.keep _ _ _ _ _ hf.F (hb.mono (kU _)) (fun k hk=>lW k (af k hk) ?_),fun k j hj=>nU k (hof k j hj),fun k o x hx=>?_,fun k x hx=>?_,fun k hx hB=>?_⟩,fun j hj=>?_⟩
  ·cases e:own k with
   |none=>rfl
   |some j=>exact absurd hk (hf.own k j e)
  ·rcases eD k o x hx with e|e
   ·exact hf.c k o x e
   ·exact fun hc=>nU k e.2 (σ0.sub _ _ _ _ hf.F k hc)
  ·rcases dv k x hx with e|e
   ·exact hf.m k x e
   ·exact fun hc=>nU k e.2 (σ0.sub _ _ _ _ hf.F k hc)
  ·rcases dv k _ hx with e|e
   ·exact hf.d k e hB
   ·exact nU k e.2
  ·by_cases hw:W j
   ·exact absurd hj (yV j hw)
   ·obtain⟨e1,e2,_⟩:=hW j hw;rw[e2];exact h4 j (by rw[←e1];exact hj)
theorem Inv.setReg (h:Inv C S ρ σ own hv w0 σ0 A a w){t:Nat}(ht:¬A t){s:Sh}{v:Value}{d:D}(hs:aJ C S (ρ.setR t d) σ hv s v d)(af:t<a.tmps.size)
 (S7:∀gs s',s=.opt gs s'→(∀g,g∈gs→A g.1)∧∀bP Ik,s'≠.opt bP Ik):
 Inv C (S.setR t s) (ρ.setR t d) σ own hv w0 σ0 (fun u=>A u∨u=t) (a.put (some t) v) w:=by
 refine h.step (fun _=>False) rfl (.refl σ) h.ok (fun _ _ _ hx=>.inl hx) (fun _ _ hx=>.inl hx) (.refl _ _) ⟨fun _=>bn _,fun _ _=>rfl⟩ (fun j _=>⟨rfl,rfl,rfl,fun k hk=>⟨hk,rfl⟩⟩) (fun j hj=>hj.elim) h.owns (fun _=>.inl) (fun u=>?_) (fun u hu=>?_) (fun k _ _=>?_) (fun k i hk=>.inl ⟨i,hk⟩) (fun _ hf=>hf.elim)
 ·by_cases hu:u=t
  ·subst hu;refine .inr ⟨?_,?_⟩
   ·rw[IA];simp only[St.setR,Env.setR,aS,af,and_self,if_true];refine aJ.mono (S:=S) (S':=S.setR u s) (ρ:=ρ.setR u d) (ρ':=ρ.setR u d) (hv:=hv) (.refl σ) ⟨fun _=>bn _,fun _ _=>rfl⟩ (fun gs s' e=>?_) (fun gs s' e=>(S7 gs s' e).2) hs;rfl
   ·intro gs s' e;simp only[St.setR,aS] at e;exact⟨fun g hm=>.inl ((S7 gs s' e).1 g hm),(S7 gs s' e).2⟩
  ·refine .inl ⟨by simp[St.setR,bM _ _ hu],?_,by simp[Env.setR,bM _ _ hu]⟩;rw[IA];simp[hu]
 ·exact bM _ _ (fun e=>ht (e▸hu))
 ·rfl
end
end Cx
namespace Cx
open Go Go.RowKit
theorem am6 {cap:Nat→Option CSig}{σ:Im}{v:Value}{x:Ty×D}(h:Rg v=some x):Rep cap σ x.1 v x.2:=by
 unfold Rg at h;split at h
 ·split at h
  ·rename_i hh;cases h;exact .int _ _ hh.1 hh.2
  ·cases h
 ·cases h;exact .bool _
 ·split at h
  ·rename_i hh;cases h;exact .str _ hh
  ·cases h
 ·cases h;exact .nils _
 ·cases h
mutual
theorem Ty.sub_one:∀a b:Ty,Ty.sub a b=true→a.one=b.one∧a.size=b.size
 |.nils a,b,h=>by
  cases b<;>simp_all [Ty.sub,Ty.beq,Ty.one,Ty.size]
 |.nsl a,b,h=>by
  cases b<;>simp_all [Ty.sub,Ty.beq,Ty.one,Ty.size]
 |.agg a,b,h=>by
  cases b with
  |agg b=>simp only[Ty.sub] at h;exact⟨rfl,(Ty.subs_len a b h)⟩
  |_=>simp[Ty.sub,Ty.beq] at h
 |.tup a,b,h=>by
  cases b with
  |tup b=>exact⟨rfl,rfl⟩
  |_=>simp[Ty.sub,Ty.beq] at h
 |.int a,b,h=>by cases b<;>simp_all [Ty.sub,Ty.beq,Ty.one,Ty.size]
 |.bool,b,h=>by cases b<;>simp_all [Ty.sub,Ty.beq,Ty.one,Ty.size]
 |.str,b,h=>by cases b<;>simp_all [Ty.sub,Ty.beq,Ty.one,Ty.size]
 |.slice a,b,h=>by cases b<;>simp_all [Ty.sub,Ty.beq,Ty.one,Ty.size]
 |.map a c,b,h=>by cases b<;>simp_all [Ty.sub,Ty.beq,Ty.one,Ty.size]
 |.ref a,b,h=>by cases b<;>simp_all [Ty.sub,Ty.beq,Ty.one,Ty.size]
 |.fn a r,b,h=>by cases b<;>simp_all [Ty.sub,Ty.beq,Ty.one,Ty.size]
 |.trm,b,h=>by cases b<;>simp_all [Ty.sub,Ty.beq,Ty.one,Ty.size]
theorem Ty.subs_len:∀a b:List Ty,Ty.subs a b=true→a.length=b.length
 |[],b,h=>by cases b<;>simp_all [Ty.subs]
 |x::a,b,h=>by
  cases b with
  |nil=>simp[Ty.subs] at h
  |cons y b=>simp only[Ty.subs,aw] at h;simp[Ty.subs_len a b h.2]
end
theorem Ty.subs_get:∀a b:List Ty,Ty.subs a b=true→∀(i:Nat) (t:Ty),b[i]?=some t→∃s,a[i]?=some s∧Ty.sub s t=true
 |[],b,h,i,t,hi=>by cases b<;>simp_all [Ty.subs]
 |x::a,b,h,i,t,hi=>by
  cases b with
  |nil=>simp[Ty.subs] at h
  |cons y b=>
   simp only[Ty.subs,aw] at h;cases i with
   |zero=>simp only[PD,bj] at hi ⊢;subst hi;exact⟨x,rfl,h.1⟩
   |succ i=>simp only[aaY] at hi ⊢;exact Ty.subs_get a b h.2 i t hi
theorem Rep.sub {cap:Nat→Option CSig}{σ:Im}{s:Ty}{v:Value}{d:D}(h:Rep cap σ s v d):∀{t:Ty},Ty.sub s t=true→Rep cap σ t v d:=by
 induction h with
 |nils e=>
  intro t ht;cases t with
  |slice b=>exact .nil b
  |nils b=>exact .nils b
  |_=>simp[Ty.sub,Ty.beq] at ht
 |nsl0 e=>
  intro t ht;cases t with
  |slice b=>exact .nil b
  |nsl b=>exact .nsl0 b
  |_=>simp[Ty.sub,Ty.beq] at ht
 |nsl e k o n c xs h hx ih=>
  intro t ht;cases t with
  |slice b=>simp only[Ty.sub] at ht;rw[←Ty.beq_eq _ _ ht];exact h
  |nsl b=>simp only[Ty.sub,Ty.beq] at ht;rw[←Ty.beq_eq _ _ ht];exact .nsl e k o n c xs h hx
  |_=>simp[Ty.sub,Ty.beq] at ht
 |agg ts vs ds h1 h2 h ho ih=>
  intro t ht;cases t with
  |agg us=>
   simp only[Ty.sub] at ht;have hl:=Ty.subs_len ts us ht;refine .agg us vs ds (by omega) (by omega) (fun i t hi=>?_) (fun i t hi=>?_)
   ·obtain⟨s,hs,df⟩:=Ty.subs_get ts us ht i t hi;exact ih i s hs df
   ·obtain⟨s,hs,df⟩:=Ty.subs_get ts us ht i t hi;rw[←(Ty.sub_one s t df).1];exact ho i s hs
  |_=>simp[Ty.sub,Ty.beq] at ht
 |tup ts vs ds h1 h2 h ih=>
  intro t ht;cases t with
  |tup us=>
   simp only[Ty.sub] at ht;have hl:=Ty.subs_len ts us ht;refine .tup us vs ds (by omega) (by omega) (fun i t hi=>?_);obtain⟨s,hs,df⟩:=Ty.subs_get ts us ht i t hi;exact ih i s hs df
  |_=>simp[Ty.sub,Ty.beq] at ht
 |int k n h1 h2=>
  intro t ht;have:=Ty.beq_eq (.int k) t (by cases t<;>simp_all [Ty.sub]);subst this;exact .int k n h1 h2
 |bool b=>
  intro t ht;have:=Ty.beq_eq .bool t (by cases t<;>simp_all [Ty.sub]);subst this;exact .bool b
 |str s h=>
  intro t ht;have:=Ty.beq_eq .str t (by cases t<;>simp_all [Ty.sub]);subst this;exact .str s h
 |nil e=>
  intro t ht;have:=Ty.beq_eq (.slice e) t (by cases t<;>simp_all [Ty.sub]);subst this;exact .nil e
 |emp e a=>
  intro t ht;have:=Ty.beq_eq (.slice e) t (by cases t<;>simp_all [Ty.sub]);subst this;exact .emp e a
 |slice e k o n c xs vs hn hc hm h hv hz=>
  intro t ht;have:=Ty.beq_eq (.slice e) t (by cases t<;>simp_all [Ty.sub]);subst this;exact .slice e k o n c xs vs hn hc hm h hv hz
 |mapnil kt et=>
  intro t ht;have:=Ty.beq_eq (.map kt et) t (by cases t<;>simp_all [Ty.sub]);subst this;exact .mapnil kt et
 |map kt et r ic es hm hl hx hk he=>
  intro t ht;have:=Ty.beq_eq (.map kt et) t (by cases t<;>simp_all [Ty.sub]);subst this;exact .map kt et r ic es hm hl hx hk he
 |ref s k o v d h hv=>
  intro t ht;have:=Ty.beq_eq (.ref s) t (by cases t<;>simp_all [Ty.sub]);subst this;exact .ref s k o v d h hv
 |fn f cs vs ds hc h1 h2 h=>
  intro t ht;have:=Ty.beq_eq (.fn cs.args cs.res) t (by cases t<;>simp_all [Ty.sub]);subst this;exact .fn f cs vs ds hc h1 h2 h
 |fnnil aa r=>
  intro t ht;have:=Ty.beq_eq (.fn aa r) t (by cases t<;>simp_all [Ty.sub]);subst this;exact .fnnil aa r
structure CtxOK (C:Ctx) (σ0:Im):Prop where
 glob:∀g x,C.glob g=some x→Rep C.cap σ0 (.ref x.1) (.pointer (some ⟨g,0,none⟩)) (.ref x.2)
 mg:∀g x,C.glob g=some x→σ0.m g=some mc
theorem ayG {bP gs:List (Nat×Bool)}{ρ:Env}(h:OT bP gs=true)(hg:holds gs ρ=true):holds bP ρ=true:=by
 unfold holds OT at*;rw[da] at*;intro g hm;obtain⟨k,hk,vF⟩:=xu.1 (h g hm);simp only[aw,beq_iff_eq] at vF;have h1:=aD vF.1;have e:g=k:=by cases g;cases k;simp_all
 rw[e];exact hg k hk
section
variable {C:Ctx} {S:St} {ρ:Env} {σ:Im} {own:Nat→Option Nat} {hv:Nat→Value} {w0:World} {σ0:Base} {A:Nat→Prop} {a:Act} {w:World} {gs:List (Nat×Bool)}
theorem rJ (h:Inv C S ρ σ own hv w0 σ0 A a w)(hg:holds gs ρ=true)(t:Nat):aJ C S ρ σ hv (rI S gs t) (a.tmps.getD t undef) (ρ.r t)∧∀bP s',rI S gs t≠.opt bP s':=by
 have hr:=h.regs t;unfold rI;cases hs:S.r t with
 |opt bP s=>
  rw[hs] at hr;have ho:=(h.opts t bP s hs).2;simp only;cases hb:OT bP gs with
  |true=>exact⟨hr.1 (ayG hb hg),ho⟩
  |false=>exact⟨trivial,fun _ _ e=>by cases e⟩
 |_=>rw[hs] at hr;exact⟨hr,fun _ _ e=>by cases e⟩
theorem Rep.dcells {cap:Nat→Option CSig}{t:Ty}{v:Value}{d:D}(h:Rep cap σ t v d)(ht:t.one=true):d.cells=[d]:=by
 cases h<;>simp_all [Ty.one,D.cells]
theorem Q4 (h:Inv C S ρ σ own hv w0 σ0 A a w){b:PE}{cs:List Value}{ds:List D}(hd:b.ev ρ=.agg ds):
 ∀(shs:List Sh) (i:Nat) (r:List Ty×List PE),(∀m s,shs[m]?=some s→aJ C S ρ σ hv s (cs.getD (i+m) undef) (ds.getD (i+m) .none))→xY S b shs i=some r→
  r.1.length=shs.length∧∃es,(PE.evc ρ r.2=es∧PE.evs ρ r.2=es)∧es.length=shs.length∧(∀m t,r.1[m]?=some t→t.one=true∧Rep C.cap σ t (cs.getD (i+m) undef) (es.getD m .none)):=by
 intro shs
 induction shs with
 |nil=>intro i r aO hr;simp[xY] at hr;subst hr;exact⟨rfl,[],⟨rfl,rfl⟩,rfl,by simp⟩
 |cons s shs ih=>
  intro i r aO hr;simp only[xY,aA] at hr;obtain⟨x,hx,hr⟩:=hr
  have ux:∀m s,shs[m]?=some s→aJ C S ρ σ hv s (cs.getD (i+1+m) undef) (ds.getD (i+1+m) .none):=fun m s hm=>by
   have:=aO (m+1) s (by simpa using hm)
   rwa [show i+(m+1)=i+1+m by omega] at this
  obtain⟨l1,es,⟨he,uy⟩,l2,bO⟩:=ih (i+1) x ux hx;have h0:=aO 0 s rfl;simp only[mq] at h0;split at hr
  ·rename_i t;cases eN:t.one<;>simp only[eN,cond_true,cond_false] at hr
   ·cases hr
   ·cases hr;have fi:Rep C.cap σ t (cs.getD i undef) (ds.getD i .none):=h0;refine⟨by simp[l1],ds.getD i .none::es,⟨?_,by simp only[PE.evs,PE.ev,hd,D.c,D.cells,uy]⟩,by simp[l2],fun m t' hm=>?_⟩
    ·simp only[PE.evc,PE.ev,hd,D.c,D.cells,he];have:=fi.dcells eN;simp only[D.cells] at this;rw[this];rfl
    ·cases m with
     |zero=>simp at hm;subst hm;exact⟨eN,fi⟩
     |succ m=>simp at hm;have:=bO m t' hm;rwa [show i+1+m=i+(m+1) by omega] at this
  ·rename_i j' ver;cases hb:Nat.beq ver (S.ver j')<;>simp only[hb,cond_true,cond_false] at hr
   ·cases hr
   ·have ed:=aD hb;split at hr
    ·rename_i t eo;cases hr;have ho:=h.objs j';rw[eo] at ho;have fi:cs.getD i undef=hv j':=h0.2 ed;refine⟨by simp[l1],ρ.o j'::es,⟨?_,by simp only[PE.evs,PE.ev,uy]⟩,by simp[l2],fun m t' hm=>?_⟩
     ·simp only[PE.evc,PE.ev,he];rw[ho.2.dcells ho.1];rfl
     ·cases m with
      |zero=>simp at hm;subst hm;exact⟨ho.1,by rw[mq,fi];exact ho.2⟩
      |succ m=>simp at hm;have:=bO m t' hm;rwa [show i+1+m=i+(m+1) by omega] at this
    ·cases hr
  ·cases hr
theorem cw (h:Inv C S ρ σ own hv w0 σ0 A a w)(hC:CtxOK C σ0)(hg:holds gs ρ=true){x:Operand}{r:Ty×PE}(hu:use C S gs x=some r):Rep C.cap σ r.1 (a.eval x) (r.2.ev ρ):=by
 cases x with
 |const v=>
  simp only[use,aC] at hu;obtain⟨y,hy,rfl⟩:=hu;exact am6 hy
 |func f=>
  simp only[use] at hu;split at hu
  ·rename_i aa r hc;cases hu;exact .fn f ⟨[],aa,r⟩ [] [] hc rfl rfl (fun i t hi=>by simp at hi)
  ·cases hu
 |global g=>
  simp only[use,aC] at hu;obtain⟨y,hy,rfl⟩:=hu;exact(hC.glob g y hy).mono h.le
 |tmp t=>
  obtain⟨hs,_⟩:=rJ h hg t;simp only[use] at hu;split at hu
  ·rename_i ty e;rw[e] at hs;cases hu;exact hs
  ·rename_i j ver e;rw[e] at hs;cases hb:Nat.beq ver (S.ver j)<;>simp only[hb,cond_true,cond_false] at hu
   ·cases hu
   ·have ed:=aD hb;have ho:=h.objs j;split at hu
    ·rename_i ty eo;rw[eo] at ho;cases hu;show Rep C.cap σ ty (a.tmps.getD t undef) (ρ.o j);rw[hs.2 ed];exact ho.2
    ·cases hu
  ·rename_i j ver off e;rw[e] at hs;cases hb:(Nat.beq ver (S.ver j)&&Nat.beq off 0)<;>simp only[hb,cond_true,cond_false] at hu
   ·cases hu
   ·simp only[aw] at hb;have ed:=aD hb.1;have iS:=aD hb.2;have ho:=h.objs j;split at hu
    ·rename_i ty eo;rw[eo] at ho;cases hu;obtain⟨k,v,h1,h2,h3⟩:=ho;obtain⟨k',e1,e2⟩:=hs.2 ed;rw[h1] at e1;cases e1;subst iS;show Rep C.cap σ (.ref ty) (a.tmps.getD t undef) (.ref (ρ.o j));rw[e2];exact .ref ty k 0 v _ h2 (by simpa using h3)
    ·cases hu
  ·rename_i l e;rw[e] at hs;simp only[aC] at hu;obtain⟨p,hp,rfl⟩:=hu;obtain⟨vs,ds,e1,e2,e3,e4,e5⟩:=hs
   obtain⟨l1,es,⟨he,_⟩,l2,bO⟩:=Q4 (b:=.r t) h (cs:=vs) (ds:=ds) e2 _ 0 p (fun m s hm=>by
      rw[ct,aC] at hm;obtain⟨c,hc,rfl⟩:=hm;rw[je];have:=e5 m c hc;cases c with
      |dat t=>exact this.2
      |obj j ver=>exact this) hp
   rw[dM] at l1 l2;show Rep C.cap σ (.agg p.1) (a.tmps.getD t undef) (.agg (PE.evc ρ p.2));rw[e1,he];refine .agg _ _ _ (by omega) (by omega) (fun m t hm=>?_) (fun m t hm=>(bO m t hm).1);have:=(bO m t hm).2
   rwa [je] at this
  ·cases hu
end
end Cx
