/-
  Shared texts of this claim.
-/
import Derived.Test.YtepfoekldooaeaaDoorKAH
import Derived.Below
import Derived.ChangeSame
import Derived.WalkKit
import Derived.ProofKit
import Derived.OpenShut
import Derived.Carry
import Derived.JoinedCond
set_option linter.unusedSimpArgs false
set_option linter.unusedVariables false
namespace Cx
open Go Go.RowKit Go.ChangeShapes Go.WideShapes
def jY (w:World):Im:=
 ⟨fun k o=>w.cell? ⟨k,o,none⟩,fun _=>none⟩
theorem ahK (w:World):(jY w).ok w:=by
 exact⟨fun k o v h=>h,fun k es h=>by cases h⟩
def uQ (P:Program)(r:TypeId→Option Ty):List Field→Nat→Option (List Ty)
 |[],_=>some []
 |f::fs,off=>(r f.type).bind fun ft=>
  bif Nat.beq f.offset off&&Nat.beq (P.cellsOf f.type) ft.flat.length then(uQ P r fs (off+ft.flat.length)).map (ft.flat++·) else none
def eA (P:Program):Nat→TypeId→Option Ty
 |0,_=>none
 |n+1,t=>
  match P.underlying t with
  |some .bool=>some .bool
  |some (.int k)=>some (.int k)
  |some .string=>some .str
  |some (.slice e)=>bif nR P e then some (.slice .trm) else(eA P n e).bind fun te=>bif Nat.beq (P.cellsOf e) te.flat.length&&Nat.ble 1 te.flat.length then some (.slice te) else none
  |some (.struct fs)=>(uQ P (eA P n) fs.toList 0).bind fun ts=>bif Nat.beq (P.cellsOf t) ts.length then some (.agg ts) else none
  |_=>none
theorem ahP {P:Program}{e:TypeId}(h:nR P e=true)(n:Nat):eA P (n+2) e=some .trmA∧P.cellsOf e=3:=by
 unfold nR at h;split at h
 case h_2=>cases h
 rename_i fs hu;split at h
 case h_2=>cases h
 rename_i f0 f1 f2 q5;simp only[Bool.and_eq_true] at h;obtain⟨⟨⟨⟨⟨⟨⟨⟨⟨h0,h1⟩,h2⟩,o0⟩,o1⟩,o2⟩,c0⟩,c1⟩,c2⟩,c3⟩:=h;split at h0
 case h_2=>cases h0
 rename_i u0;split at h1
 case h_2=>cases h1
 rename_i u1;split at h2
 case h_2=>cases h2
 rename_i e' u2;obtain rfl:=Nat.eq_of_beq_eq_true h2;have r0:eA P (n+1) f0.type=some (.int .i64):=by simp[eA,u0]
 have r1:eA P (n+1) f1.type=some (.int .i64):=by simp[eA,u1]
 have ht:nR P e'=true:=by
  unfold nR;rw[hu];simp only[q5];simp[u0,u1,u2,Nat.eq_of_beq_eq_true o0,Nat.eq_of_beq_eq_true o1,Nat.eq_of_beq_eq_true o2,Nat.eq_of_beq_eq_true c0,Nat.eq_of_beq_eq_true c1,Nat.eq_of_beq_eq_true c2,Nat.eq_of_beq_eq_true c3]
 have r2:eA P (n+1) f2.type=some (.slice .trm):=by simp[eA,u2,ht]
 refine⟨?_,Nat.eq_of_beq_eq_true c3⟩;show eA P (n+1+1) e'=_;rw[eA,hu];simp only[q5,uQ,r0,r1,r2,Option.bind_some,Ty.flat,List.length_cons,List.length_nil,o0,c0,Bool.and_self,cond_true];simp[Nat.eq_of_beq_eq_true o1,Nat.eq_of_beq_eq_true o2,Nat.eq_of_beq_eq_true c1,Nat.eq_of_beq_eq_true c2,Nat.eq_of_beq_eq_true c3,Ty.trmA]
theorem Lw {P:Program}{n:Nat}{t:TypeId}{ty:Ty}(h:eA P n t=some ty):ty.rowT=true∨ty.one=true:=by
 cases n with
 |zero=>simp[eA] at h
 |succ n=>
  simp only[eA] at h;split at h
  ·cases h;exact .inr rfl
  ·cases h;exact .inr rfl
  ·cases h;exact .inr rfl
  ·rename_i e _;cases ht:nR P e<;>simp only[ht,cond_true,cond_false] at h
   ·simp only[Option.bind_eq_some_iff] at h;obtain⟨te,_,h⟩:=h;cases hb:(Nat.beq (P.cellsOf e) te.flat.length&&Nat.ble 1 te.flat.length)<;>simp only[hb,cond_true,cond_false] at h
    ·cases h
    ·cases h;exact .inr rfl
   ·cases h;exact .inr rfl
  ·rename_i fs _;simp only[Option.bind_eq_some_iff] at h;obtain⟨ts,_,h⟩:=h;cases hb:Nat.beq (P.cellsOf t) ts.length<;>simp only[hb,cond_true,cond_false] at h
   ·cases h
   ·cases h;exact .inl rfl
  ·cases h
def jM (cap:Nat→Option CSig)(σ:Im)(ts:List Ty)(cs:List Value)(ds:List D):Prop:=
 cs.length=ts.length∧ds.length=ts.length∧∀(i:Nat) (u:Ty),ts[i]?=some u→Rep cap σ u (cs.getD i undef) (ds.getD i .none)∧u.one=true
theorem jM.one {cap:Nat→Option CSig}{σ:Im}{t:Ty}{v:Value}{d:D}(h:Rep cap σ t v d)(ht:t.one=true):jM cap σ [t] [v] [d]:=
 ⟨rfl,rfl,fun i u hu=>by
   cases i with
   |zero=>simp at hu;subst hu;exact⟨h,ht⟩
   |succ i=>simp at hu⟩
theorem jM.append {cap:Nat→Option CSig}{σ:Im}{ts us:List Ty}{cs vs:List Value}{ds es:List D}(h:jM cap σ ts cs ds)(k:jM cap σ us vs es):jM cap σ (ts++us) (cs++vs) (ds++es):=by
 obtain⟨h1,h2,h3⟩:=h;obtain⟨k1,k2,k3⟩:=k;refine⟨by simp[h1,k1],by simp[h2,k2],fun i u hu=>?_⟩;by_cases hi:i<ts.length
 ·rw[List.getElem?_append_left hi] at hu;have:=h3 i u hu;rw[List.getD_eq_getElem?_getD,List.getD_eq_getElem?_getD,List.getElem?_append_left (by omega),List.getElem?_append_left (by omega)];rw[List.getD_eq_getElem?_getD,List.getD_eq_getElem?_getD] at this;exact this
 ·rw[List.getElem?_append_right (by omega)] at hu;have:=k3 _ u hu;rw[List.getD_eq_getElem?_getD,List.getD_eq_getElem?_getD,List.getElem?_append_right (by omega),List.getElem?_append_right (by omega),h1,h2];rw[List.getD_eq_getElem?_getD,List.getD_eq_getElem?_getD] at this;exact this
def OJ (ag:Bool)(ds:List D):D:=if ag then .agg ds else ds.getD 0 .none
theorem acR (t:Ty):t.flat.length=t.size:=by cases t<;>rfl
theorem Rep.ofRow {cap:Nat→Option CSig}{σ:Im}{t:Ty}{cs:List Value}{ds:List D}(fc:t.rowT=true∨t.one=true)(h:jM cap σ t.flat cs ds):Rep cap σ t (Cx.rowOf t.rowT cs) (OJ t.rowT ds):=by
 obtain⟨h1,h2,h3⟩:=h;cases t with
 |agg ts=>exact .agg ts cs ds h1 h2 (fun i u hu=>(h3 i u hu).1) (fun i u hu=>(h3 i u hu).2)
 |trm=>simp[Ty.rowT,Ty.one] at fc
 |_=>exact(h3 0 _ rfl).1
theorem amJ {cap:Nat→Option CSig}{σ:Im}{t:Ty}{cs:List Value}{ds:List D}(fc:t.rowT=true∨t.one=true)(h:jM cap σ t.flat cs ds){j:Nat}{u:Value}(hj:(rowOf t.rowT cs).cells[j]?=some u):cs[j]?=some u:=by
 obtain⟨h1,h2,h3⟩:=h;cases t with
 |agg ts=>simpa [rowOf,Ty.rowT,Value.cells] using hj
 |trm=>simp[Ty.rowT,Ty.one] at fc
 |_=>
  have h4:=h3 0 _ rfl;have h5:=(h4.1.oneCell h4.2).1;simp only[rowOf,Ty.rowT,Bool.false_eq_true,if_false] at hj;rw[h5] at hj;cases j with
  |zero=>
   simp only[List.getElem?_toArray,List.getElem?_cons_zero,Option.some.injEq] at hj
   match cs,h1 with
   |[c],_=>simpa using hj
  |succ j=>simp at hj
section
variable {H:Type} {enc:TypeId×Value→H} {P:Program} {w:World} {base:Nat} {held:Bool} {cap:Nat→Option CSig}
theorem Wr {k:IntKind}{n:Int}(h:(Lit.int k n).wf=true):k.min≤n∧n≤k.max:=by
 simpa [Lit.wf] using h
theorem Vz {n m:Nat}(ih:∀(t:TypeId) (cs:List Value) (x:DataW H×List MemPlace) (ty:Ty),DataW.trod enc P w base (fun _=>true) held n t cs=some x→eA P m t=some ty→∃ds,jM cap (jY w) ty.flat cs ds):
 ∀(fs:List Field) (off:Nat) (cs:List Value) (ts:List Ty),uQ P (eA P m) fs off=some ts→cs.length=off+ts.length→
  (∀f,f∈fs→∃x,DataW.trod enc P w base (fun _=>true) held n f.type ((cs.drop f.offset).take (P.cellsOf f.type))=some x)→∃ds,jM cap (jY w) ts (cs.drop off) ds
 |[],off,cs,ts,h,hl,_=>by
  simp only[uQ,Option.some.injEq] at h;subst h;have:cs.drop off=[]:=by simp at hl ⊢;omega
  rw[this];exact⟨[],rfl,rfl,fun i u hu=>by simp at hu⟩
 |f::fs,off,cs,ts,h,hl,hx=>by
  simp only[uQ,Option.bind_eq_some_iff] at h;obtain⟨ft,hft,h⟩:=h;cases hb:(Nat.beq f.offset off&&Nat.beq (P.cellsOf f.type) ft.flat.length)<;>simp only[hb,cond_true,cond_false] at h
  ·cases h
  simp only[Option.map_eq_some_iff] at h;obtain⟨us,hus,rfl⟩:=h;simp only[Bool.and_eq_true] at hb;have e1:=cn hb.1;have e2:=cn hb.2;obtain⟨x,kB⟩:=hx f (List.mem_cons_self ..);rw[e1,e2] at kB;obtain⟨wM,fq⟩:=ih _ _ _ _ kB hft;simp only[List.length_append] at hl;obtain⟨ds2,mF⟩:=Vz ih fs (off+ft.flat.length) cs us hus (by omega) fun g hg=>hx g (List.mem_cons_of_mem _ hg);refine⟨wM++ds2,?_⟩;have:=fq.append mF;rw[←List.drop_drop,List.take_append_drop] at this;exact this
theorem aoZ:∀(n m:Nat) (t:TypeId) (cs:List Value) (x:DataW H×List MemPlace) (ty:Ty),DataW.trod enc P w base (fun _=>true) held n t cs=some x→eA P m t=some ty→∃ds,jM cap (jY w) ty.flat cs ds:=by
 intro n
 induction n with
 |zero=>intro m t cs x ty h;simp[DataW.trod] at h
 |succ n ih=>
  intro m t cs x ty h aS;cases m with
  |zero=>simp[eA] at aS
  |succ m=>
   simp only[eA] at aS;split at aS
   ·rename_i hu;cases aS;obtain⟨b,rfl,_⟩:=DataW.trod_bool hu h;exact⟨_,.one (.bool b) rfl⟩
   ·rename_i k hu;cases aS;obtain⟨z,rfl,_,hw⟩:=DataW.trod_int hu h;exact⟨_,.one (.int k z (Wr hw).1 (Wr hw).2) rfl⟩
   ·rename_i hu;cases aS;obtain⟨s,rfl,_,hs⟩:=DataW.trod_string hu h;exact⟨_,.one (.str s hs) rfl⟩
   ·rename_i e hu;have rp:∃(m':Nat) (te qm:Ty),eA P m' e=some te∧P.cellsOf e=te.flat.length∧1≤te.flat.length∧ty=.slice qm∧qm.unf=te:=by
     cases ht:nR P e<;>simp only[ht,cond_true,cond_false] at aS
     ·simp only[Option.bind_eq_some_iff] at aS;obtain⟨te,rp,aS⟩:=aS;cases hb:(Nat.beq (P.cellsOf e) te.flat.length&&Nat.ble 1 te.flat.length)<;>simp only[hb,cond_true,cond_false] at aS
      ·cases aS
      cases aS;simp only[Bool.and_eq_true] at hb;exact⟨m,te,te,rp,cn hb.1,Nat.le_of_ble_eq_true hb.2,rfl,Ty.unf_ro (Lw rp)⟩
     ·cases aS;obtain⟨k1,k2⟩:=ahP ht 0;exact⟨2,.trmA,.trm,k1,k2,by decide,rfl,rfl⟩
    obtain⟨m',te,qm,rp,e1,e2,rfl,Cs⟩:=rp;have fc:=Lw rp;rcases DataW.trod_slice hu h with⟨rfl,_⟩|⟨a,len,cp,elems,rest,n',gh,rfl,_,hba,hl,hm,hlen,fK,Cq,_⟩
    ·exact⟨_,.one (.nil qm) rfl⟩
    ·cases gh;obtain⟨hrl,ph⟩:=Cq rfl
     have lD:∀i,i<cp→∃ci y,w.cells? base (a.add (i*P.cellsOf e)) (P.cellsOf e)=some ci∧DataW.trod enc P w base (fun _=>true) held n e ci=some y:=by
      intro i hi
      have eF:∃y,(w.cells? base (a.add (i*P.cellsOf e)) (P.cellsOf e)).bind (DataW.trod enc P w base (fun _=>true) held n e)=some y:=by
           by_cases B5:i<len
           ·rw[fK i B5];exact⟨_,List.getElem?_eq_getElem (by omega)⟩
           ·have:=ph (i-len) (by omega);rw[show len+(i-len)=i by omega] at this;rw[this];exact⟨_,List.getElem?_eq_getElem (by omega)⟩
      obtain⟨y,hy⟩:=eF;rw[Option.bind_eq_some_iff] at hy;obtain⟨ci,h1,h2⟩:=hy;exact⟨ci,y,h1,h2⟩
     by_cases xB:cp=0
     ·subst xB;have:len=0:=by omega
      subst this;exact⟨_,.one (.emp qm a) rfl⟩
     ·have QD:a.spot=none:=by
           obtain⟨ci,y,h1,_⟩:=lD 0 (by omega);obtain⟨_,_,h3⟩:=World.cells?_some h1;have:=h3 0 (by omega);simp only[Nat.zero_mul,Addr.add,if_true] at this;unfold World.cell? at this;cases hs:a.spot with
           |none=>rfl
           |some s=>
            exfalso;have hl:ci.length=P.cellsOf e:=(World.cells?_some h1).2.1;split at this
            ·rw[hs] at this;simp at this;subst this;simp at hl;omega
            ·rw[eq_comm,List.getElem?_eq_none_iff] at this;omega
      obtain⟨k,o,s⟩:=a;simp only at QD;subst QD;have aJ:∀i,∃p:List Value×List D,i<len→w.cells? base ((⟨k,o,none⟩:Addr).add (i*P.cellsOf e)) (P.cellsOf e)=some p.1∧jM cap (jY w) te.flat p.1 p.2:=by
           intro i;by_cases hi:i<len
           ·obtain⟨ci,y,h1,h2⟩:=lD i (by omega);obtain⟨ds,hr⟩:=ih m' _ _ _ _ h2 rp;exact⟨(ci,ds),fun _=>⟨h1,hr⟩⟩
           ·exact⟨([],[]),fun h=>absurd h hi⟩
      obtain⟨f,hf⟩:=Classical.axiomOfChoice aJ;refine⟨_,.one (.slice qm k o len cp ((List.range len).map fun i=>OJ te.rowT (f i).2) (fun i=>rowOf te.rowT (f i).1) (by simp) hl hm (fun i x hx=>?_) (fun i j u hi hj=>?_)) rfl⟩
      ·rw[List.getElem?_map,Option.map_eq_some_iff] at hx;obtain⟨i',cK,rfl⟩:=hx;have ae:i<len:=by have:=(List.getElem?_eq_some_iff.1 cK).1;simpa using this
       rw[List.getElem?_range ae] at cK;cases cK;rw[Cs];exact Rep.ofRow fc (hf i ae).2
      ·obtain⟨h1,h2⟩:=hf i hi;have dD:=amJ fc h2 hj;obtain⟨_,h4,h5⟩:=World.cells?_some h1;have ei:j<P.cellsOf e:=by rw[←h4];exact(List.getElem?_eq_some_iff.1 dD).1
       have:=h5 j ei;rw[dD] at this;show w.cell? ⟨k,o+i*qm.size+j,none⟩=some u;rw[←qm.unf_size,Cs,←acR,←e1,←this]
       congr 1
       simp only[Addr.add];split<;>split<;>simp_all
   ·rename_i fs hu;simp only[Option.bind_eq_some_iff] at aS;obtain⟨ts,Cr,aS⟩:=aS;cases hb:Nat.beq (P.cellsOf t) ts.length<;>simp only[hb,cond_true,cond_false] at aS
    ·cases aS
    cases aS;obtain⟨xs,n',gh,_,hl,ry,hf⟩:=DataW.trod_struct hu h;cases gh
    have:=Vz (ih m) fs.toList 0 cs ts Cr (by rw[hl,cn hb];omega) (fun f hm=>by
     obtain⟨i,hi⟩:=List.getElem?_of_mem hm;have cK:fs[i]?=some f:=by simpa using hi
     have h1:=hf i f cK;have ae:i<fs.size:=(Array.getElem?_eq_some_iff.1 cK).1;exact⟨_,h1.trans (List.getElem?_eq_getElem (by omega))⟩)
    show ∃ds,jM cap (jY w) ts cs ds;simpa using this
   ·cases aS
theorem vA {base:Nat}{t:TypeId}{v:Value}(h:Cell.okWide P w .any base t v):v.cells=#[v]:=by
 cases v<;>first|rfl|(exfalso;simp only[Cell.okWide,Cell.ok] at h;revert h;cases P.underlying t with|none=>simp|some T=>cases T<;>simp)
theorem W9 {base base':Nat}{m:Nat}{t:TypeId}{v:Value}{d:DataW H}{ps:List MemPlace}{ty:Ty}(aw:Value.okWide P w .any base' t v)(h:DataW.Trod enc P w base (fun _=>true) held t v d ps)(aS:eA P m t=some ty):∃d,Rep cap (jY w) ty v d:=by
 obtain⟨fuel,h⟩:=h;obtain⟨ds,hr⟩:=aoZ (cap:=cap) fuel m t _ _ _ h aS;have bt:=Rep.ofRow (Lw aS) hr;cases m with
 |zero=>simp[eA] at aS
 |succ m=>
  suffices hs:rowOf ty.rowT v.cells.toList=v by rw[hs] at bt;exact⟨_,bt⟩
  simp only[eA] at aS;unfold Value.okWide at aw;split at aS
  ·rename_i hu;cases aS;rw[hu] at aw;simp only at aw;rw[vA aw];rfl
  ·rename_i hu;cases aS;rw[hu] at aw;simp only at aw;rw[vA aw];rfl
  ·rename_i hu;cases aS;rw[hu] at aw;simp only at aw;rw[vA aw];rfl
  ·rename_i e hu;cases ht:nR P e<;>simp only[ht,cond_true,cond_false] at aS
   ·simp only[Option.bind_eq_some_iff] at aS;obtain⟨te,_,aS⟩:=aS;cases hb:(Nat.beq (P.cellsOf e) te.flat.length&&Nat.ble 1 te.flat.length)<;>simp only[hb,cond_true,cond_false] at aS
    ·cases aS
    cases aS;rw[hu] at aw;simp only at aw;rw[vA aw];rfl
   ·cases aS;rw[hu] at aw;simp only at aw;rw[vA aw];rfl
  ·rename_i fs hu;simp only[Option.bind_eq_some_iff] at aS;obtain⟨ts,_,aS⟩:=aS;cases hb:Nat.beq (P.cellsOf t) ts.length<;>simp only[hb,cond_true,cond_false] at aS
   ·cases aS
   cases aS;rw[hu] at aw;obtain⟨cs,rfl,_⟩:=aw;simp[rowOf,Ty.rowT,Value.cells]
  ·cases aS
def zH (P:Program)(m:Nat):List TypeId→Option (List Ty)
 |[]=>some []
 |t::ts=>(eA P m t).bind fun x=>(zH P m ts).map (x::·)
theorem NT {base base' m:Nat}:∀(ts:List TypeId) (vs:List Value) (ds:List (DataW H)) (ps:List MemPlace) (dN:List Ty),DataW.TrodAll enc P w base (fun _=>true) held ts vs ds ps→zH P m ts=some dN→
 (∀(j:Nat) t v,ts[j]?=some t→vs[j]?=some v→Value.okWide P w .any base' t v)→
 ∃es:List D,vs.length=dN.length∧es.length=dN.length∧∀(i:Nat) (t:Ty),dN[i]?=some t→Rep cap (jY w) t (vs.getD i undef) (es.getD i .none)
 |[],vs,ds,ps,dN,h,aS,_=>by
  simp only[zH,Option.some.injEq] at aS;subst aS;cases vs with
  |nil=>exact⟨[],rfl,rfl,fun i t h=>by simp at h⟩
  |cons=>cases ds<;>exact h.elim
 |t::ts,vs,ds,ps,dN,h,aS,aw=>by
  simp only[zH,Option.bind_eq_some_iff,Option.map_eq_some_iff] at aS;obtain⟨ty,ahm,ao3,ahn,rfl⟩:=aS;cases vs with
  |nil=>cases ds<;>exact h.elim
  |cons v vs=>
   cases ds with
   |nil=>exact h.elim
   |cons d ds=>
    obtain⟨p,q,h1,h2,_⟩:=h;obtain⟨e,he⟩:=W9 (cap:=cap) (aw 0 t v rfl rfl) h1 ahm;obtain⟨es,k1,k2,k3⟩:=NT ts vs ds q ao3 h2 ahn (fun j t' v' hj hv=>aw (j+1) t' v' hj hv);refine⟨e::es,by simp[k1],by simp[k2],fun i u hu=>?_⟩;cases i with
    |zero=>simp at hu;subst hu;exact he
    |succ i=>simpa using k3 i u (by simpa using hu)
end
mutual
inductive DTy:Ty→D→Prop where
 |int (k:IntKind) (n:Int) (h1:k.min≤n) (h2:n≤k.max):DTy (.int k) (.v (.int k n))
 |bool (b:Bool):DTy .bool (.v (.bool b))
 |str (s:ByteArray) (h:s.size≤maxLen):DTy .str (.v (.string s))
 |slice (e:Ty) (xs:List D) (hm:xs.length≤maxLen) (h:∀x,x∈xs→DTy e.unf x):DTy (.slice e) (.list xs)
 |agg (ts:List Ty) (ds:List D) (h:DTys ts ds):DTy (.agg ts) (.agg ds)
 |other (t:Ty) (d:D) (h:match t with|.int _|.bool|.str|.slice _|.agg _=>False|_=>True):DTy t d
inductive DTys:List Ty→List D→Prop where
 |nil:DTys [] []
 |cons {t:Ty} {d:D} {ts:List Ty} {ds:List D} (h:DTy t d) (hs:DTys ts ds):DTys (t::ts) (d::ds)
end
theorem DTys.of_get:∀{ts:List Ty} {ds:List D},ds.length=ts.length→(∀(i:Nat) (t:Ty),ts[i]?=some t→DTy t (ds.getD i .none))→DTys ts ds
 |[],[],_,_=>.nil
 |t::ts,d::ds,hl,h=>.cons (h 0 t rfl) (DTys.of_get (by simpa using hl) fun i u hu=>by simpa using h (i+1) u (by simpa using hu))
 |[],_::_,hl,_=>by simp at hl
 |_::_,[],hl,_=>by simp at hl
theorem Rep.dty {cap:Nat→Option CSig}{σ:Im}{t:Ty}{v:Value}{d:D}(h:Rep cap σ t v d):DTy t d:=by
 induction h with
 |int k n h1 h2=>exact .int k n h1 h2
 |bool b=>exact .bool b
 |str s h=>exact .str s h
 |agg ts vs ds h1 h2 _ ho ih=>exact .agg ts ds (.of_get h2 ih)
 |nil e=>exact .slice e [] (by decide) (fun x hx=>by cases hx)
 |emp e a=>exact .slice e [] (by decide) (fun x hx=>by cases hx)
 |slice e k o n c xs vs hn hc hm _ hv ih=>
  refine .slice e xs (by omega) fun x hx=>?_;obtain⟨i,hi⟩:=List.getElem?_of_mem hx;exact ih i x hi
 |_=>exact .other _ _ trivial
theorem ahV {H:Type}{enc:TypeId×Value→H}{C:Ctx}{f:Nat}{fn:Func}{sg:Sig}{spec:ChangeSpec}{tb:TypeId}{apart fresh handsOn again:Bool}(hl:laidOutB C.P=true)
 (po:zH C.P 12 fn.params.toList=some sg.args) (agX:fn.params.toList.all (fun t=>C.P.readableRec t&&decide (t<C.P.types.size))=true) (IB:spec.vars=[])
 (aha:∀ds:List (DataW H),ds.length=fn.params.size→(spec.fn H ds).results=[.lit (.bool true)]∧(spec.fn H ds).args=ds∧(spec.fn H ds).vars=[])
 (iS:fn.resultTypes=#[tb]) (QJ:C.P.underlying tb=some .bool) (lE:sg.mode=.dat) (pj:sg.res=.bool)
 (HQ:∀ds,DTys sg.args ds→ja C f sg ds (.v (.bool true)))
 (W:World) (HG:CtxOK C (jY W)) (base:Nat) (args:Array Value) (ds gs:List (DataW H)) (before:List MemPlace)
 (bR:∀(j:Nat) t v,fn.params[j]?=some t→args[j]?=some v→Value.okWide C.P W .any base t v)
 (hW:DataW.Whole enc C.P fn.params.toList spec.vars apart W args.toList ds gs before):
 Calls C.P f args W fun e W'=>∃v,e=.returned v∧spec.post enc C.P fn apart fresh handsOn again W args v W':=by
 have BP:=hW;have ae:∀p∈before,p.block<W.heap.size:=fun p hp=>BP.lt p hp;obtain⟨p,q,hA,hV,rfl,xL,bk⟩:=hW;rw[IB] at hV;obtain⟨rfl,rfl⟩:=trodVars_none hV;obtain⟨es,k1,k2,k3⟩:=NT (cap:=C.cap) (base':=base) fn.params.toList args.toList ds p sg.args hA po (fun j t v hj hv=>bR j t v (by simpa using hj) (by simpa using hv));have aS:DTys sg.args es:=.of_get k2 fun i t ht=>(k3 i t ht).dty
 have hlen:∀(ts:List TypeId) (vs:List Value) (ds:List (DataW H)) (ps:List MemPlace),DataW.TrodAll enc C.P W 0 (fun _=>true) true ts vs ds ps→ds.length=ts.length:=by
  intro ts
  induction ts with
  |nil=>intro vs ds ps h;cases vs<;>cases ds<;>first|rfl|exact h.elim
  |cons t ts ih=>
   intro vs ds ps h;cases vs with
   |nil=>cases ds<;>exact h.elim
   |cons v vs=>cases ds with
    |nil=>exact h.elim
    |cons d ds=>obtain⟨p,q,_,h2,_⟩:=h;simp[ih vs ds q h2]
 have Hw:ds.length=fn.params.size:=by simpa using hlen _ _ _ _ hA
 obtain⟨s1,s2,s3⟩:=aha (ds++[]) (by simpa using Hw);refine(HQ es aS (jY W) W args (ahK W) HG ⟨k1,k2,k3⟩).mono fun e W' hh=>?_;obtain⟨v,σ',rfl,_,_,hb,_,_,hr⟩:=hh;refine⟨v,rfl,?_⟩;simp only[l8,lE,pj] at hr;obtain⟨b,rfl,qU⟩:=hr.bool_inv;cases qU
 have stays:∀(sp:Nat→Bool) (ts:List TypeId) (vs:List Value) (ds:List (DataW H)) (ps:List MemPlace),ts.all (fun t=>C.P.readableRec t&&decide (t<C.P.types.size))=true→(∀x∈ps,x.block<W.heap.size)→(∀x∈ps,sp x.block=true)→
  DataW.TrodAll enc C.P W 0 (fun _=>true) true ts vs ds ps→DataW.TrodAll enc C.P W' 0 sp true ts vs ds ps:=by
  intro sp ts
  induction ts with
  |nil=>intro vs ds ps _ _ _ h;cases vs<;>cases ds<;>first|exact h|exact h.elim
  |cons t ts ih=>
   intro vs ds ps ha nL Cq h;cases vs with
   |nil=>cases ds<;>exact h.elim
   |cons v vs=>cases ds with
    |nil=>exact h.elim
    |cons d ds=>
     obtain⟨p,q,h1,h2,rfl⟩:=h;simp only[List.all_cons,Bool.and_eq_true,decide_eq_true_eq] at ha
     exact⟨p,q,WideElems.Trod_stays hl ha.1.1 ha.1.2 h1 (fun x hx=>hb.same (nL x (List.mem_append_left _ hx))) (fun x hx=>Cq x (List.mem_append_left _ hx)),
      ih vs ds q (by simpa using ha.2) (fun x hx=>nL x (List.mem_append_right _ hx)) (fun x hx=>Cq x (List.mem_append_right _ hx)) h2,rfl⟩
 have Qi:∀x∈p,x.block<W.heap.size:=fun x hx=>ae x (List.mem_append_left _ hx);have gf:=fun sp (h:∀x∈p,sp x.block=true)=>stays sp _ _ _ _ agX Qi h hA;have ph:∀(b:Nat) (sp:Nat→Bool) (hd:Bool),DataW.TrodAll enc C.P W' b sp hd fn.resultTypes.toList ((Value.bool true).resultList fn.resultTypes.size) [.lit (.bool true)] []:=by
  intro b sp hd;rw[iS];exact trodAll_mk1 (shut_bool QJ true)
 refine⟨ds,[],p++[],[],p,[],BP,?_,?_,?_,World.keptBut_mono (fun x hx=>⟨hx,?_⟩) (hb.frame (·∈p++[])),fun _=>?_⟩
 ·rw[s1];exact ph _ _ _
 ·rw[s2];simpa using gf _ (fun x hx=>by simpa using Qi x hx)
 ·rw[s3,IB];rfl
 ·simpa using hx
 ·refine⟨ok_one iS rfl (okWide_bool_mk QJ true),_,[],([]++p)++[],⟨[]++p,[],trodAll_append (gf _ (fun _ _=>rfl)) (ph _ _ _),by rw[IB];exact rfl,rfl,?_,?_⟩,?_⟩
  ·intro b off hp;have bq:MemPlace.cell b off∈p++[]:=by simpa using hp
   rw[hb.frozen (ae _ bq)];exact xL b off bq
  ·intro ha;simpa using bk ha
  ·intro x hx _;simpa using hx
end Cx
namespace Cx
open Go Go.RowKit
abbrev cB:=Nat→aO
def au (T:cB)(f:Nat)(ds:List D)(d:D):Prop:=∃n0,∀n,n0≤n→T n f ds=some d
def sE (T:cB)(l:List PI)(ρ:Env)(Q:Env→Prop):Prop:=∃ρ',Q ρ'∧∃n0,∀n,n0≤n→PI.runs (T n) l ρ=some ρ'
def aU (T:cB)(c:PC)(ρ:Env)(Q:Out→Prop):Prop:=∃x,Q x∧∃n0,∀n,n0≤n→c.ev (T n) n ρ=some x
theorem aU.mono {T:cB}{c:PC}{ρ:Env}{Q Q':Out→Prop}(h:aU T c ρ Q)(hq:∀x,Q x→Q' x):aU T c ρ Q':=by
 obtain⟨x,hx,n0,hn⟩:=h;exact⟨x,hq x hx,n0,hn⟩
theorem sE.nil {T:cB}{ρ:Env}{Q:Env→Prop}(h:Q ρ):sE T [] ρ Q:=⟨ρ,h,0,fun _ _=>rfl⟩
theorem sE.cons {T:cB}{p:PI}{l:List PI}{ρ ρ1:Env}{Q:Env→Prop}{n0:Nat}(h:∀n,n0≤n→p.run (T n) ρ=some ρ1)(k:sE T l ρ1 Q):sE T (p::l) ρ Q:=by
 obtain⟨ρ',hQ,n1,h1⟩:=k;exact⟨ρ',hQ,max n0 n1,fun n hn=>by simp[PI.runs,h n (by omega),h1 n (by omega)]⟩
def eV (T:cB):List PI→Env→(Env→Prop)→Prop
 |[],ρ,Q=>Q ρ
 |.setR t e::l,ρ,Q=>eV T l (ρ.setR t (e.ev ρ)) Q
 |.setO t e::l,ρ,Q=>eV T l (ρ.setO t (e.ev ρ)) Q
 |.chk e::l,ρ,Q=>(e.ev ρ).b=true∧eV T l ρ Q
 |.call gs dst f args::l,ρ,Q=>if holds gs ρ=true then ∃d,au T f (PE.evs ρ args) d∧eV T l (ρ.setR dst d) Q else eV T l ρ Q
 |.callc gs dst e args::l,ρ,Q=>if holds gs ρ=true then ∃f caps d,e.ev ρ=.clo f caps∧au T f (PE.evs ρ args++caps) d∧eV T l (ρ.setR dst d) Q else eV T l ρ Q
 |.mcall j f args::l,ρ,Q=>∃d,au T f (PE.evs ρ args) d∧eV T l (ρ.setO j d) Q
theorem oA {T:cB}:∀{l:List PI} {ρ:Env} {Q:Env→Prop},eV T l ρ Q→sE T l ρ Q
 |[],ρ,Q,h=>.nil h
 |.setR t e::l,ρ,Q,h=>.cons (n0:=0) (fun _ _=>rfl) (oA h)
 |.setO t e::l,ρ,Q,h=>.cons (n0:=0) (fun _ _=>rfl) (oA h)
 |.chk e::l,ρ,Q,h=>.cons (n0:=0) (fun n _=>by simp[PI.run,h.1]) (oA h.2)
 |.call gs dst f args::l,ρ,Q,h=>by
  unfold eV at h;split at h
  ·rename_i hg;obtain⟨d,⟨n0,hn⟩,h⟩:=h;exact .cons (n0:=n0) (fun n hle=>by simp[PI.run,hg,hn n hle]) (oA h)
  ·rename_i hg;exact .cons (n0:=0) (fun n hle=>by simp[PI.run,hg]) (oA h)
 |.callc gs dst e args::l,ρ,Q,h=>by
  unfold eV at h;split at h
  ·rename_i hg;obtain⟨f,caps,d,he,⟨n0,hn⟩,h⟩:=h;exact .cons (n0:=n0) (fun n hle=>by simp[PI.run,hg,he,hn n hle]) (oA h)
  ·rename_i hg;exact .cons (n0:=0) (fun n hle=>by simp[PI.run,hg]) (oA h)
 |.mcall j f args::l,ρ,Q,h=>by
  obtain⟨d,⟨n0,hn⟩,h⟩:=h;exact .cons (n0:=n0) (fun n hle=>by simp[PI.run,hn n hle]) (oA h)
def ij (ρ:Env)(lr lo:List Nat)(Q:Out→Prop):Out→Prop
 |.next ρ'=>Q (.next (ρ.join lr lo ρ'))
 |x=>Q x
def je (ρ:Env)(id:Nat)(lr lo:List Nat)(Q:Out→Prop):Out→Prop
 |.next ρ'=>Q (.next (ρ.join lr lo ρ'))
 |.exit br ρ'=>if br=id then Q (.next (ρ.join lr lo ρ')) else Q (.exit br ρ')
 |.ret d=>Q (.ret d)
def eU (K:Env→Prop)(Q:Out→Prop):Out→Prop
 |.next ρ'=>K ρ'
 |.exit id ρ'=>Q (.exit id ρ')
 |.ret d=>Q (.ret d)
theorem aU.is {T:cB}{l:List PI}{ρ:Env}{Q:Out→Prop}(h:eV T l ρ fun ρ'=>Q (.next ρ')):aU T (.is l) ρ Q:=by
 obtain⟨ρ',hQ,n0,hn⟩:=oA h;exact⟨.next ρ',hQ,n0,fun n hle=>by simp[PC.ev,hn n hle]⟩
theorem aU.skip {T:cB}{ρ:Env}{Q:Out→Prop}(h:Q (.next ρ)):aU T .skip ρ Q:=⟨_,h,0,fun _ _=>rfl⟩
theorem aU.exit {T:cB}{ρ:Env}{id:Nat}{Q:Out→Prop}(h:Q (.exit id ρ)):aU T (.exit id) ρ Q:=⟨_,h,0,fun _ _=>rfl⟩
theorem aU.ret {T:cB}{ρ:Env}{e:PE}{Q:Out→Prop}(h:Q (.ret (e.ev ρ))):aU T (.ret e) ρ Q:=⟨_,h,0,fun _ _=>rfl⟩
theorem aU.seq {T:cB}{a b:PC}{ρ:Env}{Q:Out→Prop}(h:aU T a ρ (eU (fun ρ'=>aU T b ρ' Q) Q)):aU T (.seq a b) ρ Q:=by
 obtain⟨x,hx,n0,hn⟩:=h;cases x with
 |next ρ'=>
  obtain⟨y,hy,n1,h1⟩:=hx;exact⟨y,hy,max n0 n1,fun n hle=>by simp[PC.ev,hn n (by omega),h1 n (by omega)]⟩
 |exit id ρ'=>exact⟨_,hx,n0,fun n hle=>by simp[PC.ev,hn n hle]⟩
 |ret d=>exact⟨_,hx,n0,fun n hle=>by simp[PC.ev,hn n hle]⟩
theorem aU.ite {T:cB}{c:PE}{lr lo:List Nat}{a b:PC}{ρ:Env}{Q:Out→Prop}(h:if(c.ev ρ).b=true then aU T a ρ (ij ρ lr lo Q) else aU T b ρ (ij ρ lr lo Q)):aU T (.ite c lr lo a b) ρ Q:=by
 split at h
 all_goals
  rename_i hc;obtain⟨x,hx,n0,hn⟩:=h;cases x with
  |next ρ'=>exact⟨_,hx,n0,fun n hle=>by simp[PC.ev,hc,hn n hle]⟩
  |exit id ρ'=>exact⟨_,hx,n0,fun n hle=>by simp[PC.ev,hc,hn n hle]⟩
  |ret d=>exact⟨_,hx,n0,fun n hle=>by simp[PC.ev,hc,hn n hle]⟩
theorem aU.block {T:cB}{id:Nat}{lr lo:List Nat}{a:PC}{ρ:Env}{Q:Out→Prop}(h:aU T a ρ (je ρ id lr lo Q)):aU T (.block id lr lo a) ρ Q:=by
 obtain⟨x,hx,n0,hn⟩:=h;cases x with
 |next ρ'=>exact⟨_,hx,n0,fun n hle=>by simp[PC.ev,hn n hle]⟩
 |exit br ρ'=>
  simp only[je] at hx;split at hx
  ·rename_i e;subst e;exact⟨_,hx,n0,fun n hle=>by simp[PC.ev,hn n hle]⟩
  ·rename_i e;exact⟨_,hx,n0,fun n hle=>by simp[PC.ev,hn n hle,dO e]⟩
 |ret d=>exact⟨_,hx,n0,fun n hle=>by simp[PC.ev,hn n hle]⟩
theorem aU.loop {T:cB}{lr lo:List Nat}{a:PC}{ρ:Env}{Q:Out→Prop}{α:Type}(inv:α→List D→List D→Prop)(pD:α→Nat)(s0:α)(h0:inv s0 (lr.map ρ.r) (lo.map ρ.o))
 (step:∀s vr vo,inv s vr vo→aU T a (ρ.put lr vr lo vo) (eU (fun ρ'=>∃s',pD s'<pD s∧inv s' (lr.map ρ'.r) (lo.map ρ'.o)) Q)):aU T (.loop lr lo a) ρ Q:=by
 have key:∀(m:Nat) (s:α) (vr vo:List D),pD s≤m→inv s vr vo→∃x,Q x∧∃n0,∀n k,n0≤n→n0≤k→dW (a.ev (T n) n) ρ lr lo k vr vo=some x:=by
  intro m
  induction m with
  |zero=>
   intro s vr vo hm hi;obtain⟨x,hx,n0,hn⟩:=step s vr vo hi;cases x with
   |next ρ'=>obtain⟨s',ae,_⟩:=hx;omega
   |exit id ρ'=>
    refine⟨_,hx,n0+1,fun n k hle hk=>?_⟩;obtain⟨k',rfl⟩:∃k',k=k'+1:=⟨k-1,by omega⟩
    simp[dW,hn n (by omega)]
   |ret d=>
    refine⟨_,hx,n0+1,fun n k hle hk=>?_⟩;obtain⟨k',rfl⟩:∃k',k=k'+1:=⟨k-1,by omega⟩
    simp[dW,hn n (by omega)]
  |succ m ih=>
   intro s vr vo hm hi;obtain⟨x,hx,n0,hn⟩:=step s vr vo hi;cases x with
   |next ρ'=>
    obtain⟨s',ae,cK⟩:=hx;obtain⟨y,hy,n1,h1⟩:=ih s' _ _ (by omega) cK;refine⟨y,hy,max n0 n1+1,fun n k hle hk=>?_⟩;obtain⟨k',rfl⟩:∃k',k=k'+1:=⟨k-1,by omega⟩
    simp[dW,hn n (by omega),h1 n k' (by omega) (by omega)]
   |exit id ρ'=>
    refine⟨_,hx,n0+1,fun n k hle hk=>?_⟩;obtain⟨k',rfl⟩:∃k',k=k'+1:=⟨k-1,by omega⟩
    simp[dW,hn n (by omega)]
   |ret d=>
    refine⟨_,hx,n0+1,fun n k hle hk=>?_⟩;obtain⟨k',rfl⟩:∃k',k=k'+1:=⟨k-1,by omega⟩
    simp[dW,hn n (by omega)]
 obtain⟨x,hx,n0,hn⟩:=key (pD s0) s0 _ _ (Nat.le_refl _) h0;exact⟨x,hx,n0,fun n hle=>by simp only[PC.ev];exact hn n n hle hle⟩
theorem UG {α:Type}:∀(l:List α),∃L:List (List α),∀ys,ys∈L↔ys.Perm l
 |[]=>⟨[[]],fun ys=>by simp⟩
 |x::l=>by
  obtain⟨L,hL⟩:=UG l;refine⟨L.flatMap fun ys=>(List.range (ys.length+1)).map fun i=>ys.take i++x::ys.drop i,fun zs=>?_⟩;simp only[List.mem_flatMap,List.mem_map,List.mem_range];constructor
  ·rintro⟨ys,hy,i,_,rfl⟩;have h1:=(hL ys).1 hy;refine(List.perm_middle).trans (.cons x ?_);rw[List.take_append_drop];exact h1
  ·intro h;have hx:x∈zs:=h.symm.subset (List.mem_cons_self ..);obtain⟨s,t,rfl⟩:=List.append_of_mem hx;refine⟨s++t,(hL _).2 ?_,s.length,by simp;omega,by simp⟩;exact(List.perm_cons x).1 ((List.perm_middle).symm.trans h)
theorem aU.meach {T:cB}{J:Nat}{ps bT lo:List Nat}{a:PC}{ρ:Env}{Q:Out→Prop}(es:List (D×D))(he:ρ.o J=.tup [.list [],.map es])(inv:List D→List D→Prop)(h0:inv [] (lo.map ρ.o))
 (step:∀done x rest vo,(done++x::rest).Perm (fi (.map es))→inv done vo→aU T a ((ρ.put ps (bT.map x.tget) lo vo).setO J (.tup [.list (done++[x]),.map es])) (fun y=>∃ρ',y=.next ρ'∧inv (done++[x]) (lo.map ρ'.o)))
 (last:∃vo,(∀done,done.Perm (fi (.map es))→∀jI,inv done jI→jI=vo)∧Q (.next (ρ.put [] [] lo vo))):aU T (.meach J ps bT lo a) ρ Q:=by
 obtain⟨vo,hl,hQ⟩:=last;have key:∀(xs done:List D) (vs:List D),(done++xs).Perm (fi (.map es))→inv done vs→∃n0,∀n,n0≤n→iU (a.ev (T n) n) ρ J (.map es) ps bT lo xs done vs=some vo:=by
  intro xs
  induction xs with
  |nil=>intro done vs hp hi;exact⟨0,fun n _=>by rw[hl done (by simpa using hp) vs hi];rfl⟩
  |cons x xs ih=>
   intro done vs hp hi;obtain⟨y,⟨ρ',rfl,cK⟩,n0,hn⟩:=step done x xs vs hp hi;obtain⟨n1,h1⟩:=ih (done++[x]) _ (by simpa using hp) cK;exact⟨max n0 n1,fun n hle=>by simp only[iU,hn n (by omega)];exact h1 n (by omega)⟩
 have jR:∀(L:List (List D)),(∀ys,ys∈L→ys.Perm (fi (.map es)))→∃n0,∀n,n0≤n→∀ys,ys∈L→iU (a.ev (T n) n) ρ J (.map es) ps bT lo ys [] (lo.map ρ.o)=some vo:=by
  intro L
  induction L with
  |nil=>intro _;exact⟨0,fun n _ ys hy=>by cases hy⟩
  |cons y L ih=>
   intro hL;obtain⟨n0,gT⟩:=ih fun ys hy=>hL ys (List.mem_cons_of_mem _ hy);obtain⟨n1,h1⟩:=key y [] _ (by simpa using hL y (List.mem_cons_self ..)) h0;refine⟨max n0 n1,fun n hle ys hy=>?_⟩;rcases List.mem_cons.1 hy with e|hy
   ·subst e;exact h1 n (by omega)
   ·exact gT n (by omega) ys hy
 obtain⟨L,hL⟩:=UG (fi (.map es));obtain⟨n0,hn⟩:=jR L fun ys hy=>(hL ys).1 hy;refine⟨_,hQ,n0,fun n hle=>?_⟩;simp only[PC.ev,rW];refine⟨vo,⟨by rw[he];rfl,fun ys hy=>?_⟩,rfl⟩;rw[he] at hy ⊢;exact hn n hle ys ((hL ys).2 hy)
theorem au.of_pc {tab:Nat→Option PC}{ext:Nat→Option (aO→List D→Option D)}{f:Nat}{pc:PC}{ds:List D}{d:D}(hx:ext f=none)(ht:tab f=some pc)(h:aU (cr tab ext) pc (gR ds) (fun x=>x=.ret d)):au (cr tab ext) f ds d:=by
 obtain⟨x,rfl,n0,hn⟩:=h;refine⟨n0+1,fun n hle=>?_⟩;obtain⟨k,rfl⟩:∃k,n=k+1:=⟨n-1,by omega⟩
 simp[cr,hx,ht,hn k (by omega)]
theorem au.of_ext {tab:Nat→Option PC}{ext:Nat→Option (aO→List D→Option D)}{f:Nat}{g:aO→List D→Option D}{ds:List D}{d:D}(hx:ext f=some g)(h:∃n0,∀n,n0≤n→g (cr tab ext n) ds=some d):au (cr tab ext) f ds d:=by
 obtain⟨n0,hn⟩:=h;refine⟨n0+1,fun n hle=>?_⟩;obtain⟨k,rfl⟩:∃k,n=k+1:=⟨n-1,by omega⟩
 simp[cr,hx,hn k (by omega)]
theorem au.fnOK {C:Ctx}{tab:Nat→Option PC}{ext:Nat→Option (aO→List D→Option D)}(h:TabOK C tab ext){f:Nat}{s:Sig}{ds:List D}{d:D}(hs:C.sig f=some s)(hr:au (cr tab ext) f ds d)(hm:mK s.mode=false:=by rfl):ja C f s ds d:=by
 obtain⟨n0,hn⟩:=hr;exact((NK h n0).1 f ds d (hn n0 (Nat.le_refl _)) s hs).1 hm
def Le (Φ Ψ:aO):Prop:=∀f ds d,Φ f ds=some d→Ψ f ds=some d
theorem PI.run_mono {Φ Ψ:aO}(h:Le Φ Ψ){p:PI}{ρ ρ':Env}(hr:p.run Φ ρ=some ρ'):p.run Ψ ρ=some ρ':=by
 cases p with
 |setR t e=>exact hr
 |setO t e=>exact hr
 |chk e=>exact hr
 |call gs d f as=>
  simp only[PI.run] at hr ⊢;cases hg:holds gs ρ<;>simp only[hg,cond_true,cond_false] at hr ⊢
  ·exact hr
  ·simp only[Option.map_eq_some_iff] at hr ⊢;obtain⟨x,hx,e⟩:=hr;exact⟨x,h _ _ _ hx,e⟩
 |callc gs d f as=>
  simp only[PI.run] at hr ⊢;cases hg:holds gs ρ<;>simp only[hg,cond_true,cond_false] at hr ⊢
  ·exact hr
  ·split at hr
   ·simp only[Option.map_eq_some_iff] at hr ⊢;obtain⟨x,hx,e⟩:=hr;exact⟨x,h _ _ _ hx,e⟩
   ·cases hr
 |mcall j f as=>
  simp only[PI.run,Option.map_eq_some_iff] at hr ⊢;obtain⟨x,hx,e⟩:=hr;exact⟨x,h _ _ _ hx,e⟩
theorem PI.runs_mono {Φ Ψ:aO}(h:Le Φ Ψ):∀{l:List PI} {ρ ρ':Env},PI.runs Φ l ρ=some ρ'→PI.runs Ψ l ρ=some ρ'
 |[],ρ,ρ',hr=>hr
 |p::l,ρ,ρ',hr=>by
  simp only[PI.runs,Option.bind_eq_some_iff] at hr ⊢;obtain⟨x,hx,e⟩:=hr;exact⟨x,PI.run_mono h hx,PI.runs_mono h e⟩
theorem Rt {b c:Env→Option Out}(h:∀ρ x,b ρ=some x→c ρ=some x){ρ:Env}{lr lo:List Nat}:∀{n m:Nat} {vr vo:List D} {x:Out},n≤m→dW b ρ lr lo n vr vo=some x→dW c ρ lr lo m vr vo=some x
 |0,m,vr,vo,x,_,hr=>by simp[dW] at hr
 |n+1,m,vr,vo,x,hle,hr=>by
  obtain⟨m,rfl⟩:∃k,m=k+1:=⟨m-1,by omega⟩
  simp only[dW] at hr ⊢;cases hb:b (ρ.put lr vr lo vo) with
  |none=>rw[hb] at hr;cases hr
  |some y=>
   rw[h _ _ hb];rw[hb] at hr;cases y with
   |next ρ'=>exact Rt h (by omega) hr
   |exit id ρ'=>exact hr
   |ret d=>exact hr
theorem OT {b c:Env→Option Out}(h:∀ρ x,b ρ=some x→c ρ=some x){ρ:Env}{ps lo:List Nat}{rt:Option PE}:∀{xs vo:List D} {x:Out},fF b ρ ps lo rt xs vo=some x→fF c ρ ps lo rt xs vo=some x
 |[],vo,x,hr=>hr
 |y::xs,vo,x,hr=>by
  simp only[fF] at hr ⊢;cases hb:b (ρ.put ps (partsOf ps y) lo vo) with
  |none=>rw[hb] at hr;cases hr
  |some z=>
   rw[h _ _ hb];rw[hb] at hr;cases z with
   |next ρ'=>exact OT h hr
   |exit id ρ'=>exact hr
   |ret d=>cases hr
theorem UF {b c:Env→Option Out}(h:∀ρ x,b ρ=some x→c ρ=some x){ρ:Env}{J:Nat}{es:D}{ps bT lo:List Nat}:∀{xs done vo jI:List D},iU b ρ J es ps bT lo xs done vo=some jI→iU c ρ J es ps bT lo xs done vo=some jI
 |[],_,_,_,hr=>hr
 |x::xs,done,vo,jI,hr=>by
  simp only[iU] at hr ⊢;split at hr
  ·rename_i ρ' hb;rw[h _ _ hb];exact UF h hr
  ·cases hr
theorem PC.ev_mono {Φ Ψ:aO}(h:Le Φ Ψ){n m:Nat}(hle:n≤m):∀{c:PC} {ρ:Env} {x:Out},c.ev Φ n ρ=some x→c.ev Ψ m ρ=some x:=by
 intro c
 induction c with
 |skip=>intro ρ x hr;exact hr
 |is l=>
  intro ρ x hr;simp only[PC.ev,Option.map_eq_some_iff] at hr ⊢;obtain⟨y,hy,e⟩:=hr;exact⟨y,PI.runs_mono h hy,e⟩
 |seq a b aV cH=>
  intro ρ x hr;simp only[PC.ev] at hr ⊢;cases ha:a.ev Φ n ρ with
  |none=>rw[ha] at hr;cases hr
  |some y=>rw[aV ha];rw[ha] at hr;cases y<;>first|exact cH hr|exact hr
 |ite c lr lo a b aV cH=>
  intro ρ x hr;simp only[PC.ev] at hr ⊢;cases hc:(c.ev ρ).b<;>simp only[hc,cond_true,cond_false] at hr ⊢
  ·cases ha:b.ev Φ n ρ with
   |none=>rw[ha] at hr;cases hr
   |some y=>rw[cH ha];rw[ha] at hr;exact hr
  ·cases ha:a.ev Φ n ρ with
   |none=>rw[ha] at hr;cases hr
   |some y=>rw[aV ha];rw[ha] at hr;exact hr
 |block id lr lo a aV=>
  intro ρ x hr;simp only[PC.ev] at hr ⊢;cases ha:a.ev Φ n ρ with
  |none=>rw[ha] at hr;cases hr
  |some y=>rw[aV ha];rw[ha] at hr;exact hr
 |loop lr lo a aV=>intro ρ x hr;exact Rt (fun ρ x=>aV) hle hr
 |exit id=>intro ρ x hr;exact hr
 |ret e=>intro ρ x hr;exact hr
 |each e ps lo rt a aV=>intro ρ x hr;exact OT (fun ρ x=>aV) hr
 |meach J ps bT lo a aV=>
  intro ρ x hr;simp only[PC.ev,rW] at hr ⊢;obtain⟨vo,⟨h1,h2⟩,rfl⟩:=hr;exact⟨vo,⟨h1,fun ys hy=>UF (fun ρ x=>aV) (h2 ys hy)⟩,rfl⟩
theorem NJ {tab:Nat→Option PC}{ext:Nat→Option (aO→List D→Option D)}(hx:∀f g,ext f=some g→∀Φ Ψ,Le Φ Ψ→∀ds d,g Φ ds=some d→g Ψ ds=some d):∀{n m:Nat},n≤m→Le (cr tab ext n) (cr tab ext m)
 |0,m,_=>fun f ds d h=>by simp[cr] at h
 |n+1,m,hle=>by
  obtain⟨m,rfl⟩:∃k,m=k+1:=⟨m-1,by omega⟩
  have ih:=NJ (tab:=tab) hx (n:=n) (m:=m) (by omega);intro f ds d h;simp only[cr] at h ⊢;split at h
  ·rename_i g hg;exact hx f g hg _ _ ih ds d h
  ·split at h
   ·rename_i pc _;cases he:pc.ev (cr tab ext n) n (gR ds) with
    |none=>rw[he] at h;cases h
    |some x=>
     rw[PC.ev_mono ih (by omega) he];rw[he] at h;exact h
   ·cases h
theorem au.of_at {tab:Nat→Option PC}{ext:Nat→Option (aO→List D→Option D)}(hx:∀f g,ext f=some g→∀Φ Ψ,Le Φ Ψ→∀ds d,g Φ ds=some d→g Ψ ds=some d)(n:Nat){f:Nat}{ds:List D}{d:D}(h:cr tab ext n f ds=some d):au (cr tab ext) f ds d:=
 ⟨n,fun m hm=>NJ hx hm f ds d h⟩
theorem Env.setR_r (ρ:Env)(t u:Nat)(d:D):(ρ.setR t d).r u=if u=t then d else ρ.r u:=by simp only[Env.setR,eC]
theorem Env.setO_o (ρ:Env)(t u:Nat)(d:D):(ρ.setO t d).o u=if u=t then d else ρ.o u:=by simp only[Env.setO,eC]
theorem Env.join_r (ρ ρ':Env)(lr lo:List Nat)(u:Nat):(ρ.join lr lo ρ').r u=if u∈lr then ρ'.r u else ρ.r u:=by simp only[Env.join,Env.put,og]
theorem Env.join_o (ρ ρ':Env)(lr lo:List Nat)(u:Nat):(ρ.join lr lo ρ').o u=if u∈lo then ρ'.o u else ρ.o u:=by simp only[Env.join,Env.put,og]
theorem Ez (f:Nat→D)(i:Nat)(is:List Nat)(x:D)(xs:List D)(u:Nat):putL f (i::is) (x::xs) u=if u=i then x else putL f is xs u:=by simp only[putL,eC]
theorem EA (f:Nat→D)(xs:List D)(u:Nat):putL f [] xs u=f u:=by cases xs<;>rfl
theorem agE (g:Nat×Bool)(gs:List (Nat×Bool))(ρ:Env):holds (g::gs) ρ=((ρ.r g.1).b==g.2&&holds gs ρ):=rfl
theorem D.tget_tup (x:List D)(i:Nat):(D.tup x).tget i=x.getD i .none:=rfl
theorem D.c_agg (x:List D)(i:Nat):(D.agg x).c i=x.getD i .none:=rfl
end Cx
namespace Cx
open Go Go.RowKit
structure SE where
 r:List (Nat×PE)
 o:List (Nat×PE)
def SE.getR (s:SE)(t:Nat):PE:=match ab s.r t with|some e=>e|none=>.r t
def SE.getO (s:SE)(t:Nat):PE:=match ab s.o t with|some e=>e|none=>.o t
def SE.setR (s:SE)(t:Nat)(e:PE):SE:=⟨(t,e)::s.r,s.o⟩
def SE.setO (s:SE)(t:Nat)(e:PE):SE:=⟨s.r,(t,e)::s.o⟩
def SE.id:SE:=⟨[],[]⟩
def SE.ev (s:SE)(ρ:Env):Env:=⟨fun t=>(s.getR t).ev ρ,fun t=>(s.getO t).ev ρ⟩
def SE.join (s:SE)(lr lo:List Nat)(s':SE):SE:=⟨lr.map (fun t=>(t,s'.getR t))++s.r,lo.map (fun t=>(t,s'.getO t))++s.o⟩
theorem SE.setR_ev (s:SE)(t:Nat)(e:PE)(ρ:Env):(s.setR t e).ev ρ=(s.ev ρ).setR t (e.ev ρ):=by
 have h:(fun u=>((s.setR t e).getR u).ev ρ)=bC (fun u=>(s.getR u).ev ρ) t (e.ev ρ):=by
  funext u;simp only[SE.getR,SE.setR,ab,eC];by_cases h:t=u
  ·subst h;simp
  ·have h':¬u=t:=fun e=>h e.symm;simp[dO h,h']
 simp only[SE.ev,Env.setR];rw[h];rfl
theorem SE.setO_ev (s:SE)(t:Nat)(e:PE)(ρ:Env):(s.setO t e).ev ρ=(s.ev ρ).setO t (e.ev ρ):=by
 have h:(fun u=>((s.setO t e).getO u).ev ρ)=bC (fun u=>(s.getO u).ev ρ) t (e.ev ρ):=by
  funext u;simp only[SE.getO,SE.setO,ab,eC];by_cases h:t=u
  ·subst h;simp
  ·have h':¬u=t:=fun e=>h e.symm;simp[dO h,h']
 simp only[SE.ev,Env.setO];rw[h];rfl
theorem rF {f:Nat→PE}{l:List (Nat×PE)}{u:Nat}:∀(lr:List Nat),ab (lr.map (fun t=>(t,f t))++l) u=if u∈lr then some (f u) else ab l u
 |[]=>by simp
 |t::lr=>by
  simp only[List.map_cons,List.cons_append,ab,rF lr,List.mem_cons];by_cases h:t=u
  ·subst h;simp
  ·have h':¬u=t:=fun e=>h e.symm;simp[dO h,h']
theorem SE.join_ev (s s':SE)(lr lo:List Nat)(ρ:Env):(s.join lr lo s').ev ρ=(s.ev ρ).join lr lo (s'.ev ρ):=by
 have h1:∀u,((s.join lr lo s').getR u).ev ρ=((s.ev ρ).join lr lo (s'.ev ρ)).r u:=by
  intro u;rw[Env.join_r];have e:ab (s.join lr lo s').r u=if u∈lr then some (s'.getR u) else ab s.r u:=rF lr;unfold SE.getR;rw[e];by_cases h:u∈lr
  ·simp only[h,if_true];rfl
  ·simp only[h,if_false];rfl
 have h2:∀u,((s.join lr lo s').getO u).ev ρ=((s.ev ρ).join lr lo (s'.ev ρ)).o u:=by
  intro u;rw[Env.join_o];have e:ab (s.join lr lo s').o u=if u∈lo then some (s'.getO u) else ab s.o u:=rF lo;unfold SE.getO;rw[e];by_cases h:u∈lo
  ·simp only[h,if_true];rfl
  ·simp only[h,if_false];rfl
 have e1:(fun u=>((s.join lr lo s').getR u).ev ρ)=((s.ev ρ).join lr lo (s'.ev ρ)).r:=funext h1;have e2:(fun u=>((s.join lr lo s').getO u).ev ρ)=((s.ev ρ).join lr lo (s'.ev ρ)).o:=funext h2;show Env.mk _ _=_;rw[e1,e2]
abbrev bu:=List (PE×Bool)
def bu.ok (aa:bu)(ρ:Env):Prop:=∀x,x∈aa→(x.1.ev ρ).b=x.2
def Am (e:PE):bu→Option Bool
 |[]=>none
 |x::l=>bif PE.beq x.1 e then some x.2 else Am e l
theorem NW {e:PE}{ρ:Env}{b:Bool}:∀{aa:bu},aa.ok ρ→Am e aa=some b→(e.ev ρ).b=b
 |[],_,h=>by cases h
 |x::l,aw,h=>by
  simp only[Am] at h;cases hb:PE.beq x.1 e<;>simp only[hb,cond_true,cond_false] at h
  ·exact NW (fun y hy=>aw y (List.mem_cons_of_mem _ hy)) h
  ·cases h;rw[←PE.beq_eq _ _ hb];exact aw x (List.mem_cons_self ..)
def qq (aa:bu):PE→Option Bool
 |.con (.v (.bool b))=>some b
 |.nt x=>(qq aa x).map (!·)
 |e=>Am e aa
theorem sy {aa:bu}{ρ:Env}(h:aa.ok ρ):∀{e:PE} {b:Bool},qq aa e=some b→(e.ev ρ).b=b
 |.con (.v (.bool b)),b',he=>by simp only[qq,Option.some.injEq] at he;subst he;rfl
 |.nt x,b',he=>by
  simp only[qq,Option.map_eq_some_iff] at he;obtain⟨c,hc,rfl⟩:=he;simp only[PE.ev,D.b_bool,sy h hc]
 |e,b',he=>by
  unfold qq at he;split at he
  ·cases he;rfl
  ·rename_i x;simp only[Option.map_eq_some_iff] at he;obtain⟨c,hc,rfl⟩:=he;simp only[PE.ev,D.b_bool,sy h hc]
  ·exact NW h he
def oa (aa:bu)(c a b:PE):PE:=match qq aa c with|some true=>a|some false=>b|none=>.pick c a b
theorem Kv {aa:bu}{ρ:Env}(h:aa.ok ρ)(c a b:PE):(oa aa c a b).ev ρ=(PE.pick c a b).ev ρ:=by
 unfold oa;split
 ·rename_i ht;simp[PE.ev,sy h ht]
 ·rename_i ht;simp[PE.ev,sy h ht]
 ·rfl
def GK:PE→PE
 |.ref x=>x
 |x=>.deref x
theorem abq (x:PE)(ρ:Env):(GK x).ev ρ=(PE.deref x).ev ρ:=by unfold GK;split<;>rfl
def LX:PE→Nat→PE
 |.tup es,i=>es.getD i (.con .none)
 |x,i=>.tget x i
theorem anl (x:PE)(i:Nat)(ρ:Env):(LX x i).ev ρ=(PE.tget x i).ev ρ:=by
 unfold LX;split
 ·rename_i es;simp only[PE.ev,D.tget_tup,PE.evs_eq,List.getD_eq_getElem?_getD,List.getElem?_map];cases es[i]?<;>rfl
 ·rfl
def yP:PE→Bool
 |.ai ..|.ci ..|.cb ..|.cs ..|.sadd ..|.nt _|.conv ..|.llen _|.bytes _|.slen _|.mlen _|.idx ..|.sidx ..|.sok ..|.slok ..|.lst _|.app ..|.setn ..|.rep ..|.slc ..|.ref _|.has ..|.put ..|.an ..|.imp ..|.tup _|.clo ..=>true
 |.con (.v _)|.con (.list _)|.con (.map _)=>true
 |_=>false
theorem akB {e:PE}(h:yP e=true)(ρ:Env):(e.ev ρ).cells=[e.ev ρ]:=by
 unfold yP at h;split at h<;>first|rfl|cases h
def GA:PE→Nat→PE
 |.mk es,i=>bif es.all yP then es.getD i (.con .none) else .cell (.mk es) i
 |x,i=>.cell x i
theorem O2 {ρ:Env}:∀{es:List PE},es.all yP=true→PE.evc ρ es=PE.evs ρ es
 |[],_=>rfl
 |e::es,h=>by
  simp only[List.all_cons,Bool.and_eq_true] at h;simp only[PE.evc,PE.evs,akB h.1,O2 h.2];rfl
theorem Zy (x:PE)(i:Nat)(ρ:Env):(GA x i).ev ρ=(PE.cell x i).ev ρ:=by
 unfold GA;split
 ·rename_i es;cases hc:es.all yP
  ·rfl
  ·simp only[cond_true,PE.ev,O2 hc,D.c_agg,PE.evs_eq,List.getD_eq_getElem?_getD,List.getElem?_map];cases es[i]?<;>rfl
 ·rfl
def xo (s:SE):List (Nat×Bool)→PE
 |[]=>.con (.v (.bool true))
 |g::gs=>.an (bif g.2 then s.getR g.1 else .nt (s.getR g.1)) (xo s gs)
theorem Pq (s:SE)(ρ:Env):∀gs,((xo s gs).ev ρ).b=holds gs (s.ev ρ)
 |[]=>rfl
 |g::gs=>by
  have ih:=Pq s ρ gs;rw[agE,←ih];have e:((s.ev ρ).r g.1)=(s.getR g.1).ev ρ:=rfl;rw[e];cases hg:g.2
  ·simp only[xo,hg,cond_false,PE.ev,D.b_bool];cases((s.getR g.1).ev ρ).b<;>rfl
  ·simp only[xo,hg,cond_true,PE.ev,D.b_bool];cases((s.getR g.1).ev ρ).b<;>rfl
mutual
def PE.sub' (aa:bu)(s:SE):PE→PE
 |.r t=>s.getR t
 |.o j=>s.getO j
 |.con d=>.con d
 |.cell e i=>GA (PE.sub' aa s e) i
 |.sub e a b=>.sub (PE.sub' aa s e) a b
 |.setc e q x=>.setc (PE.sub' aa s e) q (PE.sub' aa s x)
 |.mk es=>.mk (PE.subs' aa s es)
 |.ai op k x y=>.ai op k (PE.sub' aa s x) (PE.sub' aa s y)
 |.ci op x y=>.ci op (PE.sub' aa s x) (PE.sub' aa s y)
 |.cb op x y=>.cb op (PE.sub' aa s x) (PE.sub' aa s y)
 |.cs op x y=>.cs op (PE.sub' aa s x) (PE.sub' aa s y)
 |.sadd x y=>.sadd (PE.sub' aa s x) (PE.sub' aa s y)
 |.nt x=>.nt (PE.sub' aa s x)
 |.conv k x=>.conv k (PE.sub' aa s x)
 |.pick c a b=>oa aa (PE.sub' aa s c) (PE.sub' aa s a) (PE.sub' aa s b)
 |.llen x=>.llen (PE.sub' aa s x)
 |.bytes x=>.bytes (PE.sub' aa s x)
 |.slen x=>.slen (PE.sub' aa s x)
 |.mlen x=>.mlen (PE.sub' aa s x)
 |.nth x y=>.nth (PE.sub' aa s x) (PE.sub' aa s y)
 |.idx x y=>.idx (PE.sub' aa s x) (PE.sub' aa s y)
 |.sidx x y=>.sidx (PE.sub' aa s x) (PE.sub' aa s y)
 |.sok x y=>.sok (PE.sub' aa s x) (PE.sub' aa s y)
 |.setn x y n z=>.setn (PE.sub' aa s x) (PE.sub' aa s y) n (PE.sub' aa s z)
 |.app x y=>.app (PE.sub' aa s x) (PE.sub' aa s y)
 |.lst es=>.lst (PE.subs' aa s es)
 |.rep x y=>.rep (PE.sub' aa s x) (PE.sub' aa s y)
 |.slc x y z=>.slc (PE.sub' aa s x) (PE.sub' aa s y) (PE.sub' aa s z)
 |.slok x y z=>.slok (PE.sub' aa s x) (PE.sub' aa s y) (PE.sub' aa s z)
 |.ref x=>.ref (PE.sub' aa s x)
 |.deref x=>GK (PE.sub' aa s x)
 |.look x y z=>.look (PE.sub' aa s x) (PE.sub' aa s y) (PE.sub' aa s z)
 |.has x y=>.has (PE.sub' aa s x) (PE.sub' aa s y)
 |.put x y z=>.put (PE.sub' aa s x) (PE.sub' aa s y) (PE.sub' aa s z)
 |.mn x y=>.mn (PE.sub' aa s x) (PE.sub' aa s y)
 |.mx x y=>.mx (PE.sub' aa s x) (PE.sub' aa s y)
 |.tup es=>.tup (PE.subs' aa s es)
 |.tget x i=>LX (PE.sub' aa s x) i
 |.clo f es=>.clo f (PE.subs' aa s es)
 |.an x y=>.an (PE.sub' aa s x) (PE.sub' aa s y)
 |.imp c x=>.nt (.an (xo s c) (.nt (PE.sub' aa s x)))
def PE.subs' (aa:bu)(s:SE):List PE→List PE
 |[]=>[]
 |e::es=>PE.sub' aa s e::PE.subs' aa s es
end
mutual
theorem PE.sub_ev {aa:bu}{ρ:Env}(h:aa.ok ρ)(s:SE):∀(e:PE),(PE.sub' aa s e).ev ρ=e.ev (s.ev ρ)
 |.r t=>rfl
 |.o j=>rfl
 |.con d=>rfl
 |.cell e i=>by simp only[PE.sub',Zy,PE.ev,PE.sub_ev h s e]
 |.sub e a b=>by simp only[PE.sub',PE.ev,PE.sub_ev h s e]
 |.setc e q x=>by simp only[PE.sub',PE.ev,PE.sub_ev h s e,PE.sub_ev h s x]
 |.mk es=>by simp only[PE.sub',PE.ev,PE.subc_ev h s es]
 |.ai op k x y=>by simp only[PE.sub',PE.ev,PE.sub_ev h s x,PE.sub_ev h s y]
 |.ci op x y=>by simp only[PE.sub',PE.ev,PE.sub_ev h s x,PE.sub_ev h s y]
 |.cb op x y=>by simp only[PE.sub',PE.ev,PE.sub_ev h s x,PE.sub_ev h s y]
 |.cs op x y=>by simp only[PE.sub',PE.ev,PE.sub_ev h s x,PE.sub_ev h s y]
 |.sadd x y=>by simp only[PE.sub',PE.ev,PE.sub_ev h s x,PE.sub_ev h s y]
 |.nt x=>by simp only[PE.sub',PE.ev,PE.sub_ev h s x]
 |.conv k x=>by simp only[PE.sub',PE.ev,PE.sub_ev h s x]
 |.pick c a b=>by simp only[PE.sub',Kv h,PE.ev,PE.sub_ev h s c,PE.sub_ev h s a,PE.sub_ev h s b]
 |.llen x=>by simp only[PE.sub',PE.ev,PE.sub_ev h s x]
 |.bytes x=>by simp only[PE.sub',PE.ev,PE.sub_ev h s x]
 |.slen x=>by simp only[PE.sub',PE.ev,PE.sub_ev h s x]
 |.mlen x=>by simp only[PE.sub',PE.ev,PE.sub_ev h s x]
 |.nth x y=>by simp only[PE.sub',PE.ev,PE.sub_ev h s x,PE.sub_ev h s y]
 |.idx x y=>by simp only[PE.sub',PE.ev,PE.sub_ev h s x,PE.sub_ev h s y]
 |.sidx x y=>by simp only[PE.sub',PE.ev,PE.sub_ev h s x,PE.sub_ev h s y]
 |.sok x y=>by simp only[PE.sub',PE.ev,PE.sub_ev h s x,PE.sub_ev h s y]
 |.setn x y n z=>by simp only[PE.sub',PE.ev,PE.sub_ev h s x,PE.sub_ev h s y,PE.sub_ev h s z]
 |.app x y=>by simp only[PE.sub',PE.ev,PE.sub_ev h s x,PE.sub_ev h s y]
 |.lst es=>by simp only[PE.sub',PE.ev,PE.subs_ev h s es]
 |.rep x y=>by simp only[PE.sub',PE.ev,PE.sub_ev h s x,PE.sub_ev h s y]
 |.slc x y z=>by simp only[PE.sub',PE.ev,PE.sub_ev h s x,PE.sub_ev h s y,PE.sub_ev h s z]
 |.slok x y z=>by simp only[PE.sub',PE.ev,PE.sub_ev h s x,PE.sub_ev h s y,PE.sub_ev h s z]
 |.ref x=>by simp only[PE.sub',PE.ev,PE.sub_ev h s x]
 |.deref x=>by simp only[PE.sub',abq,PE.ev,PE.sub_ev h s x]
 |.look x y z=>by simp only[PE.sub',PE.ev,PE.sub_ev h s x,PE.sub_ev h s y,PE.sub_ev h s z]
 |.has x y=>by simp only[PE.sub',PE.ev,PE.sub_ev h s x,PE.sub_ev h s y]
 |.put x y z=>by simp only[PE.sub',PE.ev,PE.sub_ev h s x,PE.sub_ev h s y,PE.sub_ev h s z]
 |.mn x y=>by simp only[PE.sub',PE.ev,PE.sub_ev h s x,PE.sub_ev h s y]
 |.mx x y=>by simp only[PE.sub',PE.ev,PE.sub_ev h s x,PE.sub_ev h s y]
 |.tup es=>by simp only[PE.sub',PE.ev,PE.subs_ev h s es]
 |.tget x i=>by simp only[PE.sub',anl,PE.ev,PE.sub_ev h s x]
 |.clo f es=>by simp only[PE.sub',PE.ev,PE.subs_ev h s es]
 |.an x y=>by simp only[PE.sub',PE.ev,PE.sub_ev h s x,PE.sub_ev h s y]
 |.imp c x=>by
  simp only[PE.sub',PE.ev,D.b_bool,Pq,PE.sub_ev h s x];cases holds c (s.ev ρ)<;>cases(x.ev (s.ev ρ)).b<;>rfl
theorem PE.subs_ev {aa:bu}{ρ:Env}(h:aa.ok ρ)(s:SE):∀(es:List PE),PE.evs ρ (PE.subs' aa s es)=PE.evs (s.ev ρ) es
 |[]=>rfl
 |e::es=>by simp only[PE.subs',PE.evs,PE.sub_ev h s e,PE.subs_ev h s es]
theorem PE.subc_ev {aa:bu}{ρ:Env}(h:aa.ok ρ)(s:SE):∀(es:List PE),PE.evc ρ (PE.subs' aa s es)=PE.evc (s.ev ρ) es
 |[]=>rfl
 |e::es=>by simp only[PE.subs',PE.evc,PE.sub_ev h s e,PE.subc_ev h s es]
end
inductive PT where
 |next (s:SE)
 |exit (id:Nat) (s:SE)
 |ret (e:PE)
 |chk (e:PE) (k:PT)
 |ite (c:PE) (a b:PT)
 |call (s:SE) (gs:List (Nat×Bool)) (dst f:Nat) (args:List PE) (k:PT)
 |callc (s:SE) (gs:List (Nat×Bool)) (dst:Nat) (e:PE) (args:List PE) (k:PT)
 |mcall (s:SE) (j f:Nat) (args:List PE) (k:PT)
 |iteS (s:SE) (c:PE) (lr lo:List Nat) (a b k:PT)
 |blockS (s:SE) (id:Nat) (lr lo:List Nat) (a k:PT)
 |brk (s:SE) (c:PC) (k:PT)
def ax (T:cB):PT→Env→(Out→Prop)→Prop
 |.next s,ρ,Q=>Q (.next (s.ev ρ))
 |.exit id s,ρ,Q=>Q (.exit id (s.ev ρ))
 |.ret e,ρ,Q=>Q (.ret (e.ev ρ))
 |.chk e k,ρ,Q=>(e.ev ρ).b=true∧ax T k ρ Q
 |.ite c a b,ρ,Q=>if(c.ev ρ).b=true then ax T a ρ Q else ax T b ρ Q
 |.call s gs dst f args k,ρ,Q=>if holds gs (s.ev ρ)=true then ∃d,au T f (PE.evs ρ args) d∧ax T k ((s.ev ρ).setR dst d) Q else ax T k (s.ev ρ) Q
 |.callc s gs dst e args k,ρ,Q=>if holds gs (s.ev ρ)=true then ∃f caps d,e.ev ρ=.clo f caps∧au T f (PE.evs ρ args++caps) d∧ax T k ((s.ev ρ).setR dst d) Q else ax T k (s.ev ρ) Q
 |.mcall s j f args k,ρ,Q=>∃d,au T f (PE.evs ρ args) d∧ax T k ((s.ev ρ).setO j d) Q
 |.iteS s c lr lo a b k,ρ,Q=>if(c.ev ρ).b=true then ax T a (s.ev ρ) (ij (s.ev ρ) lr lo (eU (fun ρ'=>ax T k ρ' Q) Q)) else ax T b (s.ev ρ) (ij (s.ev ρ) lr lo (eU (fun ρ'=>ax T k ρ' Q) Q))
 |.blockS s id lr lo a k,ρ,Q=>ax T a (s.ev ρ) (je (s.ev ρ) id lr lo (eU (fun ρ'=>ax T k ρ' Q) Q))
 |.brk s c k,ρ,Q=>aU T c (s.ev ρ) (eU (fun ρ'=>ax T k ρ' Q) Q)
def kJ:PI→Bool
 |.setR ..|.setO ..|.chk _=>true
 |_=>false
def cV:PC→Bool
 |.loop ..=>false
 |.each ..=>false
 |.meach ..=>false
 |.seq a b=>cV a&&cV b
 |.ite _ _ _ a b=>cV a&&cV b
 |.block _ _ _ a=>cV a
 |.is l=>l.all kJ
 |_=>true
abbrev Kn:=bu→SE→PT
abbrev Kx:=bu→Nat→SE→PT
def kc:List PI→bu→SE→Kn→PT
 |[],aa,s,k=>k aa s
 |.setR t e::l,aa,s,k=>kc l aa (s.setR t (e.sub' aa s)) k
 |.setO t e::l,aa,s,k=>kc l aa (s.setO t (e.sub' aa s)) k
 |.chk e::l,aa,s,k=>
  match qq aa (e.sub' aa s) with
  |some true=>kc l aa s k
  |_=>.chk (e.sub' aa s) (kc l ((e.sub' aa s,true)::aa) s k)
 |.call gs dst f args::l,aa,s,k=>.call s gs dst f (PE.subs' aa s args) (kc l [] .id k)
 |.callc gs dst e args::l,aa,s,k=>.callc s gs dst (e.sub' aa s) (PE.subs' aa s args) (kc l [] .id k)
 |.mcall j f args::l,aa,s,k=>.mcall s j f (PE.subs' aa s args) (kc l [] .id k)
def SE.merge (s:SE)(aa:bu)(lr lo:List Nat)(c:PE)(a b:SE):SE:=⟨lr.map (fun t=>(t,oa aa c (a.getR t) (b.getR t)))++s.r,lo.map (fun t=>(t,oa aa c (a.getO t) (b.getO t)))++s.o⟩
def lR:List PI→bu→SE→Option SE
 |[],_,s=>some s
 |.setR t e::l,aa,s=>lR l aa (s.setR t (e.sub' aa s))
 |.setO t e::l,aa,s=>lR l aa (s.setO t (e.sub' aa s))
 |_::_,_,_=>none
def plain:PC→bu→SE→Option SE
 |.skip,_,s=>some s
 |.is l,aa,s=>lR l aa s
 |.seq a b,aa,s=>(plain a aa s).bind fun s=>plain b aa s
 |.ite c lr lo a b,aa,s=>(plain a aa s).bind fun sa=>(plain b aa s).map fun sb=>s.merge aa lr lo (c.sub' aa s) sa sb
 |_,_,_=>none
def Q3:PC→Bool
 |.loop ..=>true
 |_=>false
def sx:PC→bu→SE→Kn→Kx→PT
 |.skip,aa,s,k,_=>k aa s
 |.is l,aa,s,k,_=>kc l aa s k
 |.seq a b,aa,s,k,kx=>sx a aa s (fun aa s=>sx b aa s k kx) kx
 |.ite c lr lo a b,aa,s,k,kx=>
  match qq aa (c.sub' aa s) with
  |some true=>bif cV a then sx a aa s (fun aa s'=>k aa (s.join lr lo s')) kx else .iteS s (c.sub' aa s) lr lo (sx a [] .id (fun _ s=>.next s) (fun _ id s=>.exit id s)) (sx b [] .id (fun _ s=>.next s) (fun _ id s=>.exit id s)) (k [] .id)
  |some false=>bif cV b then sx b aa s (fun aa s'=>k aa (s.join lr lo s')) kx else .iteS s (c.sub' aa s) lr lo (sx a [] .id (fun _ s=>.next s) (fun _ id s=>.exit id s)) (sx b [] .id (fun _ s=>.next s) (fun _ id s=>.exit id s)) (k [] .id)
  |none=>
   match plain a aa s,plain b aa s with
   |some sa,some sb=>k aa (s.merge aa lr lo (c.sub' aa s) sa sb)
   |_,_=>
   bif cV a&&cV b then
    .ite (c.sub' aa s) (sx a ((c.sub' aa s,true)::aa) s (fun aa s'=>k aa (s.join lr lo s')) kx) (sx b ((c.sub' aa s,false)::aa) s (fun aa s'=>k aa (s.join lr lo s')) kx)
   else .iteS s (c.sub' aa s) lr lo (sx a [] .id (fun _ s=>.next s) (fun _ id s=>.exit id s)) (sx b [] .id (fun _ s=>.next s) (fun _ id s=>.exit id s)) (k [] .id)
 |.block id lr lo a,aa,s,k,kx=>
  bif cV a then sx a aa s (fun aa s'=>k aa (s.join lr lo s')) (fun aa br s'=>bif Nat.beq br id then k aa (s.join lr lo s') else kx aa br s')
  else bif Q3 a then .brk s (.block id lr lo a) (k [] .id)
  else .blockS s id lr lo (sx a [] .id (fun _ s=>.next s) (fun _ id s=>.exit id s)) (k [] .id)
 |.loop lr lo a,_,s,k,_=>.brk s (.loop lr lo a) (k [] .id)
 |.each e ps lo rt a,_,s,k,_=>.brk s (.each e ps lo rt a) (k [] .id)
 |.meach J ps bT lo a,_,s,k,_=>.brk s (.meach J ps bT lo a) (k [] .id)
 |.exit id,aa,s,_,kx=>kx aa id s
 |.ret e,aa,s,_,_=>.ret (e.sub' aa s)
theorem bu.ok_nil (ρ:Env):bu.ok [] ρ:=fun _ h=>nomatch h
theorem bu.ok_cons {aa:bu}{ρ:Env}{e:PE}{b:Bool}(h:aa.ok ρ)(he:(e.ev ρ).b=b):bu.ok ((e,b)::aa) ρ:=fun x hx=>by
 rcases List.mem_cons.1 hx with e'|hx
 ·rw[e'];exact he
 ·exact h x hx
theorem m6 {T:cB}{Q:Out→Prop}{K:Env→Prop}{k:Kn}:∀{l:List PI} {aa:bu} {s:SE} {ρ:Env},aa.ok ρ→ax T (kc l aa s k) ρ Q→
 (∀ρ' aa s,(l.all kJ=true→ρ'=ρ)→aa.ok ρ'→ax T (k aa s) ρ' Q→K (s.ev ρ'))→eV T l (s.ev ρ) K
 |[],aa,s,ρ,ha,h,hk=>hk ρ aa s (fun _=>rfl) ha h
 |.setR t e::l,aa,s,ρ,ha,h,hk=>by
  simp only[eV];rw[←PE.sub_ev ha s e,←SE.setR_ev];exact m6 ha h fun ρ' aa s hp=>hk ρ' aa s fun hl=>hp (by simpa [kJ] using hl)
 |.setO t e::l,aa,s,ρ,ha,h,hk=>by
  simp only[eV];rw[←PE.sub_ev ha s e,←SE.setO_ev];exact m6 ha h fun ρ' aa s hp=>hk ρ' aa s fun hl=>hp (by simpa [kJ] using hl)
 |.chk e::l,aa,s,ρ,ha,h,hk=>by
  simp only[eV];rw[←PE.sub_ev ha s e];simp only[kc] at h;split at h
  ·rename_i ht;exact⟨sy ha ht,m6 ha h fun ρ' aa s hp=>hk ρ' aa s fun hl=>hp (by simpa [kJ] using hl)⟩
  ·exact⟨h.1,m6 (bu.ok_cons ha h.1) h.2 fun ρ' aa s hp=>hk ρ' aa s fun hl=>hp (by simpa [kJ] using hl)⟩
 |.call gs dst f args::l,aa,s,ρ,ha,h,hk=>by
  simp only[eV];simp only[kc,ax,PE.subs_ev ha,PE.sub_ev ha] at h;have bB:∀{ρ0:Env},∀ρ' aa s,(l.all kJ=true→ρ'=ρ0)→aa.ok ρ'→ax T (k aa s) ρ' Q→K (s.ev ρ'):=fun ρ' aa s _=>hk ρ' aa s fun hl=>by simp[kJ] at hl
  split at h
  ·rename_i hg;rw[if_pos hg];obtain⟨d,hd,h⟩:=h;exact⟨d,hd,m6 (s:=.id) (bu.ok_nil _) h bB⟩
  ·rename_i hg;rw[if_neg hg];exact m6 (s:=.id) (bu.ok_nil _) h bB
 |.callc gs dst e args::l,aa,s,ρ,ha,h,hk=>by
  simp only[eV];simp only[kc,ax,PE.subs_ev ha,PE.sub_ev ha] at h;have bB:∀{ρ0:Env},∀ρ' aa s,(l.all kJ=true→ρ'=ρ0)→aa.ok ρ'→ax T (k aa s) ρ' Q→K (s.ev ρ'):=fun ρ' aa s _=>hk ρ' aa s fun hl=>by simp[kJ] at hl
  split at h
  ·rename_i hg;rw[if_pos hg];obtain⟨f,caps,d,he,hd,h⟩:=h;exact⟨f,caps,d,he,hd,m6 (s:=.id) (bu.ok_nil _) h bB⟩
  ·rename_i hg;rw[if_neg hg];exact m6 (s:=.id) (bu.ok_nil _) h bB
 |.mcall j f args::l,aa,s,ρ,ha,h,hk=>by
  simp only[eV];simp only[kc,ax,PE.subs_ev ha,PE.sub_ev ha] at h;have bB:∀{ρ0:Env},∀ρ' aa s,(l.all kJ=true→ρ'=ρ0)→aa.ok ρ'→ax T (k aa s) ρ' Q→K (s.ev ρ'):=fun ρ' aa s _=>hk ρ' aa s fun hl=>by simp[kJ] at hl
  obtain⟨d,hd,h⟩:=h;exact⟨d,hd,m6 (s:=.id) (bu.ok_nil _) h bB⟩
theorem SE.merge_ev {aa:bu}{ρ:Env}(h:aa.ok ρ)(s a b:SE)(lr lo:List Nat)(c:PE):(s.merge aa lr lo c a b).ev ρ=(s.ev ρ).join lr lo (if(c.ev ρ).b=true then a.ev ρ else b.ev ρ):=by
 have h1:∀u,((s.merge aa lr lo c a b).getR u).ev ρ=((s.ev ρ).join lr lo (if(c.ev ρ).b=true then a.ev ρ else b.ev ρ)).r u:=by
  intro u;rw[Env.join_r];have e:ab (s.merge aa lr lo c a b).r u=if u∈lr then some (oa aa c (a.getR u) (b.getR u)) else ab s.r u:=rF lr;have e2:(s.merge aa lr lo c a b).getR u=if u∈lr then oa aa c (a.getR u) (b.getR u) else s.getR u:=by
   unfold SE.getR;rw[e];by_cases h:u∈lr<;>simp[h,SE.getR]
  rw[e2];by_cases hu:u∈lr
  ·simp only[hu,if_true,Kv h,PE.ev];cases hc:(c.ev ρ).b<;>simp[SE.ev]
  ·simp only[hu,if_false];rfl
 have h2:∀u,((s.merge aa lr lo c a b).getO u).ev ρ=((s.ev ρ).join lr lo (if(c.ev ρ).b=true then a.ev ρ else b.ev ρ)).o u:=by
  intro u;rw[Env.join_o];have e:ab (s.merge aa lr lo c a b).o u=if u∈lo then some (oa aa c (a.getO u) (b.getO u)) else ab s.o u:=rF lo;have e2:(s.merge aa lr lo c a b).getO u=if u∈lo then oa aa c (a.getO u) (b.getO u) else s.getO u:=by
   unfold SE.getO;rw[e];by_cases h:u∈lo<;>simp[h,SE.getO]
  rw[e2];by_cases hu:u∈lo
  ·simp only[hu,if_true,Kv h,PE.ev];cases hc:(c.ev ρ).b<;>simp[SE.ev]
  ·simp only[hu,if_false];rfl
 have e1:(fun u=>((s.merge aa lr lo c a b).getR u).ev ρ)=((s.ev ρ).join lr lo (if(c.ev ρ).b=true then a.ev ρ else b.ev ρ)).r:=funext h1;have e2:(fun u=>((s.merge aa lr lo c a b).getO u).ev ρ)=((s.ev ρ).join lr lo (if(c.ev ρ).b=true then a.ev ρ else b.ev ρ)).o:=funext h2;show Env.mk _ _=_;rw[e1,e2]
theorem Kz {T:cB}{aa:bu}{ρ:Env}(ha:aa.ok ρ):∀{l:List PI} {s s':SE},lR l aa s=some s'→∀{K:Env→Prop},K (s'.ev ρ)→eV T l (s.ev ρ) K
 |[],s,s',h,K,hk=>by simp only[lR,Option.some.injEq] at h;subst h;exact hk
 |.setR t e::l,s,s',h,K,hk=>by simp only[eV];rw[←PE.sub_ev ha s e,←SE.setR_ev];exact Kz (l:=l) ha (show lR l aa _=some s' from h) hk
 |.setO t e::l,s,s',h,K,hk=>by simp only[eV];rw[←PE.sub_ev ha s e,←SE.setO_ev];exact Kz (l:=l) ha (show lR l aa _=some s' from h) hk
 |.chk _::_,_,_,h,_,_=>by simp[lR] at h
 |.call ..::_,_,_,h,_,_=>by simp[lR] at h
 |.callc ..::_,_,_,h,_,_=>by simp[lR] at h
 |.mcall ..::_,_,_,h,_,_=>by simp[lR] at h
theorem alx {T:cB}{aa:bu}{ρ:Env}(ha:aa.ok ρ):∀(c:PC) {s s':SE},plain c aa s=some s'→∀{Q:Out→Prop},Q (.next (s'.ev ρ))→aU T c (s.ev ρ) Q:=by
 intro c
 induction c with
 |skip=>intro s s' h Q hq;simp only[plain,Option.some.injEq] at h;subst h;exact .skip hq
 |is l=>intro s s' h Q hq;exact .is (Kz ha h hq)
 |seq a b aV cH=>
  intro s s' h Q hq;simp only[plain,Option.bind_eq_some_iff] at h;obtain⟨s1,h1,h2⟩:=h;exact .seq (aV h1 (cH h2 hq))
 |ite c lr lo a b aV cH=>
  intro s s' h Q hq;simp only[plain,Option.bind_eq_some_iff,Option.map_eq_some_iff] at h;obtain⟨sa,h1,sb,h2,rfl⟩:=h;rw[SE.merge_ev ha,PE.sub_ev ha] at hq;refine .ite ?_;split
  ·rename_i hc;rw[if_pos hc] at hq;exact aV h1 hq
  ·rename_i hc;rw[if_neg hc] at hq;exact cH h2 hq
 |_=>intro s s' h;simp[plain] at h
theorem LS {T:cB}:∀(c:PC) {aa:bu} {s:SE} {k:Kn} {kx:Kx} {ρ:Env} {Q Q':Out→Prop},aa.ok ρ→ax T (sx c aa s k kx) ρ Q→
 (∀ρ' aa s,(cV c=true→ρ'=ρ)→aa.ok ρ'→ax T (k aa s) ρ' Q→Q' (.next (s.ev ρ')))→
 (∀ρ' aa id s,(cV c=true→ρ'=ρ)→aa.ok ρ'→ax T (kx aa id s) ρ' Q→Q' (.exit id (s.ev ρ')))→(cV c=false→∀id ρ',Q (.exit id ρ')→Q' (.exit id ρ'))→(∀d,Q (.ret d)→Q' (.ret d))→aU T c (s.ev ρ) Q':=by
 intro c;have alone:∀(a:PC),(∀{aa:bu} {s:SE} {k:Kn} {kx:Kx} {ρ:Env} {Q Q':Out→Prop},aa.ok ρ→ax T (sx a aa s k kx) ρ Q→
  (∀ρ' aa s,(cV a=true→ρ'=ρ)→aa.ok ρ'→ax T (k aa s) ρ' Q→Q' (.next (s.ev ρ')))→
  (∀ρ' aa id s,(cV a=true→ρ'=ρ)→aa.ok ρ'→ax T (kx aa id s) ρ' Q→Q' (.exit id (s.ev ρ')))→(cV a=false→∀id ρ',Q (.exit id ρ')→Q' (.exit id ρ'))→(∀d,Q (.ret d)→Q' (.ret d))→aU T a (s.ev ρ) Q')→
  ∀{ρ:Env} {Q:Out→Prop},ax T (sx a [] .id (fun _ s=>.next s) (fun _ id s=>.exit id s)) ρ Q→aU T a ρ Q:=by
  intro a ih ρ Q h;exact ih (s:=.id) (bu.ok_nil _) h (fun ρ' aa s _ _ h=>h) (fun ρ' aa id s _ _ h=>h) (fun _ _ _ h=>h) (fun _ h=>h)
 induction c with
 |skip=>intro aa s k kx ρ Q Q' ha h hk _ _ _;exact .skip (hk ρ aa s (fun _=>rfl) ha h)
 |is l=>intro aa s k kx ρ Q Q' ha h hk _ _ _;exact .is (m6 (K:=fun ρ'=>Q' (.next ρ')) ha h hk)
 |seq a b aV cH=>
  intro aa s k kx ρ Q Q' ha h hk hx gD hr;refine .seq (aV ha h (Q':=eU (fun ρ'=>aU T b ρ' Q') Q') (fun ρ' aa s hp qT h'=>?_) (fun ρ' aa id s hp qT h'=>?_) (fun hp=>?_) hr)
  ·refine cH qT h' (fun ρ2 aa s dF=>hk ρ2 aa s fun hl=>?_) (fun ρ2 aa id s dF=>hx ρ2 aa id s fun hl=>?_) (fun dF=>?_) hr
   ·simp only[cV,Bool.and_eq_true] at hl;rw[dF hl.2,hp hl.1]
   ·simp only[cV,Bool.and_eq_true] at hl;rw[dF hl.2,hp hl.1]
   ·exact gD (by simp[cV,dF])
  ·exact hx ρ' aa id s (fun hl=>by simp only[cV,Bool.and_eq_true] at hl;exact hp hl.1) qT h'
  ·exact gD (by simp[cV,hp])
 |ite c lr lo a b aV cH=>
  intro aa s k kx ρ Q Q' ha h hk hx gD hr;have bp:((c.sub' aa s).ev ρ).b=(c.ev (s.ev ρ)).b:=by rw[PE.sub_ev ha]
  have struct:(cV a&&cV b)=false→ax T (.iteS s (c.sub' aa s) lr lo (sx a [] .id (fun _ s=>.next s) (fun _ id s=>.exit id s)) (sx b [] .id (fun _ s=>.next s) (fun _ id s=>.exit id s)) (k [] .id)) ρ Q→aU T (.ite c lr lo a b) (s.ev ρ) Q':=by
   intro yi h;have mC:cV (.ite c lr lo a b)=false:=yi;simp only[ax,bp] at h
   have conv:∀x,ij (s.ev ρ) lr lo (eU (fun ρ'=>ax T (k [] .id) ρ' Q) Q) x→ij (s.ev ρ) lr lo Q' x:=by
      intro x cD;cases x with
      |next ρ'=>exact hk _ [] .id (fun hl=>by rw[mC] at hl;cases hl) (bu.ok_nil _) cD
      |exit id ρ'=>exact gD mC id ρ' cD
      |ret d=>exact hr d cD
   refine .ite ?_;split at h
   ·rename_i hc;rw[if_pos hc];exact(alone a aV h).mono conv
   ·rename_i hc;rw[if_neg hc];exact(alone b cH h).mono conv
  have QU:∀qC,qC.ok ρ→cV a=true→ax T (sx a qC s (fun aa s'=>k aa (s.join lr lo s')) kx) ρ Q→aU T a (s.ev ρ) (ij (s.ev ρ) lr lo Q'):=by
   intro qC qT dy h';refine aV qT h' (fun ρ' aa s' hp ko gS=>?_) (fun ρ' aa id s' hp ko gS=>?_) (fun hp=>by rw[dy] at hp;cases hp) hr
   ·have e:=hp dy;subst e;show Q' (.next _);rw[←SE.join_ev];exact hk ρ' aa _ (fun _=>rfl) ko gS
   ·have e:=hp dy;subst e;exact hx ρ' aa id s' (fun _=>rfl) ko gS
  have aC:∀qC,qC.ok ρ→cV b=true→ax T (sx b qC s (fun aa s'=>k aa (s.join lr lo s')) kx) ρ Q→aU T b (s.ev ρ) (ij (s.ev ρ) lr lo Q'):=by
   intro qC qT dy h';refine cH qT h' (fun ρ' aa s' hp ko gS=>?_) (fun ρ' aa id s' hp ko gS=>?_) (fun hp=>by rw[dy] at hp;cases hp) hr
   ·have e:=hp dy;subst e;show Q' (.next _);rw[←SE.join_ev];exact hk ρ' aa _ (fun _=>rfl) ko gS
   ·have e:=hp dy;subst e;exact hx ρ' aa id s' (fun _=>rfl) ko gS
  simp only[sx] at h;split at h
  ·rename_i ht;cases dy:cV a<;>simp only[dy,cond_true,cond_false] at h
   ·exact struct (by simp[dy]) h
   ·refine .ite ?_;rw[if_pos (by rw[←bp];exact sy ha ht)];exact QU aa ha dy h
  ·rename_i ht;cases dy:cV b<;>simp only[dy,cond_true,cond_false] at h
   ·exact struct (by simp[dy]) h
   ·refine .ite ?_;rw[if_neg (by rw[←bp,sy ha ht];simp)];exact aC aa ha dy h
  ·split at h
   ·rename_i sa sb hsa gC;have dS:plain (.ite c lr lo a b) aa s=some (s.merge aa lr lo (c.sub' aa s) sa sb):=by simp[plain,hsa,gC]
    exact alx ha _ dS (hk ρ aa _ (fun _=>rfl) ha h)
   cases dy:(cV a&&cV b)<;>simp only[dy,cond_true,cond_false] at h
   ·exact struct dy h
   ·simp only[Bool.and_eq_true] at dy;simp only[ax] at h;refine .ite ?_;rw[←bp];split at h
    ·rename_i hc;rw[if_pos hc];exact QU _ (bu.ok_cons ha hc) dy.1 h
    ·rename_i hc;rw[if_neg hc];exact aC _ (bu.ok_cons ha (by simpa using hc)) dy.2 h
 |block id lr lo a aV=>
  intro aa s k kx ρ Q Q' ha h hk hx gD hr;simp only[sx] at h;cases dy:cV a<;>simp only[dy,cond_true,cond_false] at h
  ·have mC:cV (.block id lr lo a)=false:=dy;cases hl:Q3 a<;>simp only[hl,cond_true,cond_false] at h
   case true=>
        simp only[ax] at h;refine aU.mono h fun x cD=>?_;cases x with
        |next ρ'=>exact hk _ [] .id (fun hl=>by rw[mC] at hl;cases hl) (bu.ok_nil _) cD
        |exit id ρ'=>exact gD mC id ρ' cD
        |ret d=>exact hr d cD
   simp only[ax] at h;refine .block ((alone a aV h).mono fun x cD=>?_);cases x with
   |next ρ'=>exact hk _ [] .id (fun hl=>by rw[mC] at hl;cases hl) (bu.ok_nil _) cD
   |exit br ρ'=>
    simp only[je] at cD ⊢;split
    ·rename_i e;rw[if_pos e] at cD;exact hk _ [] .id (fun hl=>by rw[mC] at hl;cases hl) (bu.ok_nil _) cD
    ·rename_i e;rw[if_neg e] at cD;exact gD mC br ρ' cD
   |ret d=>exact hr d cD
  ·refine .block (aV ha h (fun ρ' aa s' hp ko gS=>?_) (fun ρ' aa br s' hp ko gS=>?_) (fun hp=>by rw[dy] at hp;cases hp) hr)
   ·have e:=hp dy;subst e;show Q' (.next _);rw[←SE.join_ev];exact hk ρ' aa _ (fun _=>rfl) ko gS
   ·have e:=hp dy;subst e;simp only[je];by_cases cm:br=id
    ·subst cm;simp only[Nat.beq_refl,cond_true] at gS;rw[if_pos rfl,←SE.join_ev];exact hk ρ' aa _ (fun _=>rfl) ko gS
    ·rw[dO cm,cond_false] at gS;rw[if_neg cm];exact hx ρ' aa br s' (fun _=>rfl) ko gS
 |loop lr lo a aV=>
  intro aa s k kx ρ Q Q' ha h hk hx gD hr;simp only[sx,ax] at h;refine aU.mono h fun x cD=>?_;cases x with
  |next ρ'=>exact hk _ [] .id (fun hl=>by cases hl) (bu.ok_nil _) cD
  |exit id ρ'=>exact gD rfl id ρ' cD
  |ret d=>exact hr d cD
 |each e ps lo rt a aV=>
  intro aa s k kx ρ Q Q' ha h hk hx gD hr;simp only[sx,ax] at h;refine aU.mono h fun x cD=>?_;cases x with
  |next ρ'=>exact hk _ [] .id (fun hl=>by cases hl) (bu.ok_nil _) cD
  |exit id ρ'=>exact gD rfl id ρ' cD
  |ret d=>exact hr d cD
 |meach J ps bT lo a aV=>
  intro aa s k kx ρ Q Q' ha h hk hx gD hr;simp only[sx,ax] at h;refine aU.mono h fun x cD=>?_;cases x with
  |next ρ'=>exact hk _ [] .id (fun hl=>by cases hl) (bu.ok_nil _) cD
  |exit id ρ'=>exact gD rfl id ρ' cD
  |ret d=>exact hr d cD
 |exit id=>intro aa s k kx ρ Q Q' ha h _ hx _ _;exact .exit (hx ρ aa id s (fun _=>rfl) ha h)
 |ret e=>
  intro aa s k kx ρ Q Q' ha h _ _ _ hr;simp only[sx,ax] at h;refine .ret (hr _ ?_);rw[PE.sub_ev ha] at h;exact h
def Lk.un (a b:Lk):Lk:=⟨Nat.lor a.r b.r,fW a.o b.o⟩
def bits (l:List Nat):Nat:=l.foldr (fun t m=>Nat.lor (cR t) m) 0
theorem Gt {l:List Nat}{t:Nat}(h:t∈l):ak (bits l) t=true:=by
 induction l with
 |nil=>cases h
 |cons x l ih=>
  show ak (Nat.lor (cR x) (bits l)) t=true;rw[dB];rcases List.mem_cons.1 h with e|h
  ·subst e;rw[mg];rfl
  ·rw[ih h,Bool.or_true]
theorem Nx:∀{a b:List Nat} {x:Nat},x∈fW a b↔x∈a∨x∈b
 |[],b,x=>by simp[fW]
 |y::a,b,x=>by
  have ih:=Nx (a:=a) (b:=bif dH b y then b else y::b) (x:=x);show x∈fW a _↔_;rw[ih];cases hb:dH b y with
  |true=>simp only[cond_true,List.mem_cons];have:=(lM b y).1 hb;constructor
         ·rintro(h|h);exact .inl (.inr h);exact .inr h
         ·rintro((rfl|h)|h);exact .inr this;exact .inl h;exact .inr h
  |false=>simp only[cond_false,List.mem_cons];constructor
          ·rintro(h|h|h);exact .inl (.inr h);exact .inl (.inl h);exact .inr h
          ·rintro((h|h)|h);exact .inr (.inl h);exact .inl h;exact .inr (.inr h)
def Lk.Le (a K:Lk):Prop:=(∀t,ak a.r t=true→ak K.r t=true)∧∀j,j∈a.o→j∈K.o
theorem Lk.le_l (a b:Lk):a.Le (a.un b):=⟨fun t h=>by simp only[Lk.un,dB,h,Bool.true_or],fun j h=>Nx.2 (.inl h)⟩
theorem Lk.le_r (a b:Lk):b.Le (a.un b):=⟨fun t h=>by simp only[Lk.un,dB,h,Bool.or_true],fun j h=>Nx.2 (.inr h)⟩
theorem Lk.Le.trans {a b c:Lk}(h:a.Le b)(k:b.Le c):a.Le c:=⟨fun t ht=>k.1 t (h.1 t ht),fun j hj=>k.2 j (h.2 j hj)⟩
theorem Alike.le {a K:Lk}{ρ ρ':Env}(h:Alike K ρ ρ')(k:a.Le K):Alike a ρ ρ':=⟨fun t ht=>h.r t (k.1 t ht),fun j hj=>h.o j (k.2 j hj)⟩
theorem Lk.Le.of_un {a b K:Lk}(h:(a.un b).Le K):a.Le K∧b.Le K:=⟨(Lk.le_l a b).trans h,(Lk.le_r a b).trans h⟩
theorem Alike.setR {K:Lk}{ρ ρ':Env}(h:Alike K ρ ρ')(t:Nat)(d:D):Alike K (ρ.setR t d) (ρ'.setR t d):=⟨fun u hu=>by rw[Env.setR_r,Env.setR_r];split;rfl;exact h.r u hu,h.o⟩
theorem Alike.setO {K:Lk}{ρ ρ':Env}(h:Alike K ρ ρ')(t:Nat)(d:D):Alike K (ρ.setO t d) (ρ'.setO t d):=⟨h.r,fun u hu=>by rw[Env.setO_o,Env.setO_o];split;rfl;exact h.o u hu⟩
theorem Alike.join {K:Lk}{ρ ρ' η η':Env}(h:Alike K ρ ρ')(k:Alike K η η')(lr lo:List Nat):Alike K (ρ.join lr lo η) (ρ'.join lr lo η'):=
 ⟨fun u hu=>by rw[Env.join_r,Env.join_r];split;exact k.r u hu;exact h.r u hu,fun u hu=>by rw[Env.join_o,Env.join_o];split;exact k.o u hu;exact h.o u hu⟩
theorem KA {f g:Nat→D}{u:Nat}(h:g u=f u):∀(ts:List Nat) (xs:List D),putL g ts xs u=putL f ts xs u
 |[],xs=>by rw[EA,EA];exact h
 |t::ts,[]=>by simp only[putL];exact h
 |t::ts,x::xs=>by rw[Ez,Ez];split;rfl;exact KA h ts xs
theorem Alike.put {K:Lk}{ρ ρ':Env}(h:Alike K ρ ρ')(lr lo:List Nat)(vr vo:List D):Alike K (ρ.put lr vr lo vo) (ρ'.put lr vr lo vo):=⟨fun u hu=>KA (h.r u hu) lr vr,fun u hu=>KA (h.o u hu) lo vo⟩
def PI.lkw:PI→Lk
 |.setR t e=>e.lk.un ⟨cR t,[]⟩
 |.setO j e=>e.lk.un ⟨0,[j]⟩
 |.chk e=>e.lk
 |.call gs dst f as=>(PI.call gs dst f as).lk.un ⟨cR dst,[]⟩
 |.callc gs dst e as=>(PI.callc gs dst e as).lk.un ⟨cR dst,[]⟩
 |.mcall j f as=>(PI.mcall j f as).lk.un ⟨0,[j]⟩
def PC.lk:PC→Lk
 |.skip=>.none
 |.exit _=>.none
 |.is l=>l.foldr (fun p k=>p.lkw.un k) .none
 |.seq a b=>(PC.lk a).un (PC.lk b)
 |.ite c _ _ a b=>c.lk.un ((PC.lk a).un (PC.lk b))
 |.block _ _ _ a=>PC.lk a
 |.loop lr lo a=>(⟨bits lr,lo⟩:Lk).un (PC.lk a)
 |.ret e=>e.lk
 |.each e _ lo rt a=>e.lk.un ((match rt with|some e=>e.lk|none=>.none).un ((⟨0,lo⟩:Lk).un (PC.lk a)))
 |.meach J _ _ lo a=>(⟨0,J::lo⟩:Lk).un (PC.lk a)
structure Off (K:Lk) (b η η':Env):Prop where
 al:Alike K η η'
 r:∀t,ak K.r t=false→η'.r t=b.r t
 o:∀j,j∉K.o→η'.o j=b.o j
def oC (K:Lk)(b:Env):Out→Out→Prop
 |.next η,x=>∃η',x=.next η'∧Off K b η η'
 |.exit i η,x=>∃η',x=.exit i η'∧Off K b η η'
 |.ret d,x=>x=.ret d
theorem Off.uniq {K:Lk}{b η η' η2:Env}(h:Off K b η η')(k:Off K b η η2):η2=η':=by
 have h1:∀t,η2.r t=η'.r t:=fun t=>by
  cases hb:ak K.r t with
  |true=>rw[k.al.r t hb,h.al.r t hb]
  |false=>rw[k.r t hb,h.r t hb]
 have h2:∀t,η2.o t=η'.o t:=fun t=>by
  by_cases hb:t∈K.o
  ·rw[k.al.o t hb,h.al.o t hb]
  ·rw[k.o t hb,h.o t hb]
 cases η2;cases η'
 congr
 ·exact funext h1
 ·exact funext h2
theorem oC.uniq {K:Lk}{b:Env}{x y z:Out}(h:oC K b x y)(k:oC K b x z):z=y:=by
 cases x with
 |next η=>obtain⟨a,rfl,h⟩:=h;obtain⟨c,rfl,k⟩:=k;rw[h.uniq k]
 |exit i η=>obtain⟨a,rfl,h⟩:=h;obtain⟨c,rfl,k⟩:=k;rw[h.uniq k]
 |ret d=>rw[h,k]
theorem Off.setR {K:Lk}{b η η':Env}(h:Off K b η η'){t:Nat}(ht:ak K.r t=true)(d:D):Off K b (η.setR t d) (η'.setR t d):=
 ⟨h.al.setR t d,fun u hu=>by rw[Env.setR_r,if_neg (fun e=>by rw[e,ht] at hu;cases hu)];exact h.r u hu,h.o⟩
theorem Off.setO {K:Lk}{b η η':Env}(h:Off K b η η'){t:Nat}(ht:t∈K.o)(d:D):Off K b (η.setO t d) (η'.setO t d):=
 ⟨h.al.setO t d,h.r,fun u hu=>by rw[Env.setO_o,if_neg (fun e=>hu (by rw[e];exact ht))];exact h.o u hu⟩
theorem Off.join {K:Lk}{b η η' ζ ζ':Env}(h:Off K b η η')(k:Off K b ζ ζ')(lr lo:List Nat):Off K b (η.join lr lo ζ) (η'.join lr lo ζ'):=
 ⟨h.al.join k.al lr lo,fun u hu=>by rw[Env.join_r];split;exact k.r u hu;exact h.r u hu,fun u hu=>by rw[Env.join_o];split;exact k.o u hu;exact h.o u hu⟩
theorem KD {f:Nat→D}{b:D}{u:Nat}(h:f u=b):∀(ts:List Nat) (xs:List D),u∉ts→putL f ts xs u=b
 |[],xs,_=>by rw[EA];exact h
 |t::ts,[],_=>by simp only[putL];exact h
 |t::ts,x::xs,hu=>by rw[Ez,if_neg (fun e=>hu (by simp[e]))];exact KD h ts xs (fun e=>hu (by simp[e]))
theorem Off.put {K:Lk}{b η η':Env}(h:Off K b η η'){lr lo:List Nat}(hr:∀t,t∈lr→ak K.r t=true)(ho:∀t,t∈lo→t∈K.o)(vr vo:List D):Off K b (η.put lr vr lo vo) (η'.put lr vr lo vo):=
 ⟨h.al.put lr lo vr vo,fun u hu=>KD (h.r u hu) lr vr (fun e=>by rw[hr u e] at hu;cases hu),fun u hu=>KD (h.o u hu) lo vo (fun e=>hu (ho u e))⟩
theorem PI.run_off {Φ:aO}{K:Lk}{b ρ ρ' η:Env}{p:PI}(hp:p.lkw.Le K)(h:Off K b ρ ρ')(hr:p.run Φ ρ=some η):∃η',p.run Φ ρ'=some η'∧Off K b η η':=by
 have q8:p.lk.Le K:=by cases p<;>first|exact hp|exact hp.of_un.1
 rw[PI.run_eff,PI.eff_alike p (h.al.le q8)];rw[PI.run_eff] at hr;cases he:p.eff Φ ρ with
 |none=>rw[he] at hr;cases hr
 |some x=>
  rw[he] at hr;simp only[Option.map_some,Option.some.injEq] at hr;subst hr;refine⟨_,rfl,?_⟩;have hb:∀{t:Nat} {a:Lk},(a.un ⟨cR t,[]⟩).Le K→ak K.r t=true:=fun h=>h.of_un.2.1 _ (mg _);have ho:∀{t:Nat} {a:Lk},(a.un ⟨0,[t]⟩).Le K→t∈K.o:=fun h=>h.of_un.2.2 _ (by simp);cases p with
  |setR t e=>simp only[PI.eff,Option.some.injEq] at he;subst he;exact h.setR (hb hp) _
  |setO t e=>simp only[PI.eff,Option.some.injEq] at he;subst he;exact h.setO (ho hp) _
  |chk e=>simp only[PI.eff] at he;cases qU:(e.ev ρ).b<;>rw[qU] at he<;>cases he;exact h
  |call gs d f as=>
   simp only[PI.eff] at he;cases qU:holds gs ρ<;>simp only[qU,cond_true,cond_false,Option.some.injEq,Option.map_eq_some_iff] at he
   ·subst he;exact h
   ·obtain⟨y,_,rfl⟩:=he;exact h.setR (hb hp) _
  |callc gs d e as=>
   simp only[PI.eff] at he;cases qU:holds gs ρ<;>simp only[qU,cond_true,cond_false,Option.some.injEq] at he
   ·subst he;exact h
   ·split at he
    ·simp only[Option.map_eq_some_iff] at he;obtain⟨y,_,rfl⟩:=he;exact h.setR (hb hp) _
    ·cases he
  |mcall j f as=>simp only[PI.eff,Option.map_eq_some_iff] at he;obtain⟨y,_,rfl⟩:=he;exact h.setO (ho hp) _
theorem PI.runs_off {Φ:aO}{K:Lk}{b:Env}:∀{l:List PI} {ρ ρ' η:Env},(l.foldr (fun p k=>p.lkw.un k) Lk.none).Le K→Off K b ρ ρ'→PI.runs Φ l ρ=some η→∃η',PI.runs Φ l ρ'=some η'∧Off K b η η'
 |[],ρ,ρ',η,_,h,hr=>by simp only[PI.runs,Option.some.injEq] at hr ⊢;subst hr;exact⟨_,rfl,h⟩
 |p::l,ρ,ρ',η,hl,h,hr=>by
  simp only[PI.runs,Option.bind_eq_some_iff] at hr;obtain⟨ρ1,h1,h2⟩:=hr;obtain⟨ρ2,h3,h4⟩:=PI.run_off hl.of_un.1 h h1;obtain⟨η',h5,h6⟩:=PI.runs_off (l:=l) hl.of_un.2 h4 h2;exact⟨η',by simp only[PI.runs,h3,Option.bind_some,h5],h6⟩
theorem rH {K:Lk}{b η η':Env}(h:Off K b η η'){lo:List Nat}(ho:∀t,t∈lo→t∈K.o):lo.map η'.o=lo.map η.o:=List.map_congr_left fun t ht=>h.al.o t (ho t ht)
theorem RB {K:Lk}{b η η':Env}(h:Off K b η η'){lr:List Nat}(hr:∀t,t∈lr→ak K.r t=true):lr.map η'.r=lr.map η.r:=List.map_congr_left fun t ht=>h.al.r t (hr t ht)
theorem PC.ev_off {Φ:aO}{n:Nat}{K:Lk}:∀(c:PC),c.lk.Le K→∀{b ρ ρ':Env} {x:Out},Off K b ρ ρ'→c.ev Φ n ρ=some x→∃x',c.ev Φ n ρ'=some x'∧oC K b x x':=by
 intro c
 induction c with
 |skip=>intro _ b ρ ρ' x h hr;simp only[PC.ev,Option.some.injEq] at hr ⊢;subst hr;exact⟨_,rfl,_,rfl,h⟩
 |exit id=>intro _ b ρ ρ' x h hr;simp only[PC.ev,Option.some.injEq] at hr ⊢;subst hr;exact⟨_,rfl,_,rfl,h⟩
 |ret e=>intro hk B ρ ρ' x h hr;simp only[PC.ev,Option.some.injEq] at hr ⊢;subst hr;exact⟨_,rfl,by rw[PE.ev_alike e (h.al.le hk)];rfl⟩
 |is l=>
  intro hk B ρ ρ' x h hr;simp only[PC.ev,Option.map_eq_some_iff] at hr;obtain⟨η,h1,rfl⟩:=hr;obtain⟨η',h2,h3⟩:=PI.runs_off hk h h1;exact⟨.next η',by simp only[PC.ev,h2,Option.map_some],η',rfl,h3⟩
 |seq a b aV cH=>
  intro hk B ρ ρ' x h hr;simp only[PC.ev] at hr ⊢;cases ha:a.ev Φ n ρ with
  |none=>rw[ha] at hr;cases hr
  |some y=>
   obtain⟨y',h1,h2⟩:=aV hk.of_un.1 h ha;rw[ha] at hr;rw[h1];cases y with
   |next η=>obtain⟨η',rfl,h3⟩:=h2;exact cH hk.of_un.2 h3 hr
   |exit i η=>obtain⟨η',rfl,h3⟩:=h2;cases hr;exact⟨_,rfl,η',rfl,h3⟩
   |ret d=>cases h2;cases hr;exact⟨_,rfl,rfl⟩
 |ite c lr lo a b aV cH=>
  intro hk B ρ ρ' x h hr;have hc:(c.ev ρ').b=(c.ev ρ).b:=by rw[PE.ev_alike c (h.al.le hk.of_un.1)]
  have key:∀(d:PC),(∀{ρ ρ':Env} {x:Out},Off K B ρ ρ'→d.ev Φ n ρ=some x→∃x',d.ev Φ n ρ'=some x'∧oC K B x x')→(match d.ev Φ n ρ with|some (.next η)=>some (.next (ρ.join lr lo η))|x=>x)=some x→
      ∃x',(match d.ev Φ n ρ' with|some (.next η)=>some (.next (ρ'.join lr lo η))|x=>x)=some x'∧oC K B x x':=by
   intro d ih hr;cases ha:d.ev Φ n ρ with
   |none=>rw[ha] at hr;cases hr
   |some y=>
    obtain⟨y',h1,h2⟩:=ih h ha;rw[ha] at hr;rw[h1];cases y with
    |next η=>obtain⟨η',rfl,h3⟩:=h2;cases hr;exact⟨_,rfl,_,rfl,h.join h3 lr lo⟩
    |exit i η=>obtain⟨η',rfl,h3⟩:=h2;cases hr;exact⟨_,rfl,η',rfl,h3⟩
    |ret d=>cases h2;cases hr;exact⟨_,rfl,rfl⟩
  simp only[PC.ev,hc] at hr ⊢;cases gV:(c.ev ρ).b<;>simp only[gV,cond_true,cond_false] at hr ⊢
  ·exact key b (fun h1 h2=>cH hk.of_un.2.of_un.2 h1 h2) hr
  ·exact key a (fun h1 h2=>aV hk.of_un.2.of_un.1 h1 h2) hr
 |block id lr lo a aV=>
  intro hk B ρ ρ' x h hr;simp only[PC.ev] at hr ⊢;cases ha:a.ev Φ n ρ with
  |none=>rw[ha] at hr;cases hr
  |some y=>
   obtain⟨y',h1,h2⟩:=aV hk h ha;rw[ha] at hr;rw[h1];cases y with
   |next η=>obtain⟨η',rfl,h3⟩:=h2;cases hr;exact⟨_,rfl,_,rfl,h.join h3 lr lo⟩
   |exit i η=>
    obtain⟨η',rfl,h3⟩:=h2;simp only at hr ⊢;cases hb:Nat.beq i id<;>simp only[hb,cond_true,cond_false] at hr ⊢<;>cases hr
    ·exact⟨_,rfl,η',rfl,h3⟩
    ·exact⟨_,rfl,_,rfl,h.join h3 lr lo⟩
   |ret d=>cases h2;cases hr;exact⟨_,rfl,rfl⟩
 |loop lr lo a aV=>
  intro hk B ρ ρ' x h hr;have fq:∀t,t∈lr→ak K.r t=true:=fun t ht=>hk.of_un.1.1 t (Gt ht);have gi:∀t,t∈lo→t∈K.o:=fun t ht=>hk.of_un.1.2 t ht;have key:∀(m:Nat) (vr vo:List D),dW (a.ev Φ n) ρ lr lo m vr vo=some x→∃x',dW (a.ev Φ n) ρ' lr lo m vr vo=some x'∧oC K B x x':=by
   intro m
   induction m with
   |zero=>intro vr vo h;simp[dW] at h
   |succ m IQ=>
    intro vr vo hr;simp only[dW] at hr ⊢;cases ha:a.ev Φ n (ρ.put lr vr lo vo) with
    |none=>rw[ha] at hr;cases hr
    |some y=>
     obtain⟨y',h1,h2⟩:=aV hk.of_un.2 (h.put fq gi vr vo) ha;rw[ha] at hr;rw[h1];cases y with
     |next η=>obtain⟨η',rfl,h3⟩:=h2;simp only[rH h3 gi,RB h3 fq];exact IQ _ _ hr
     |exit i η=>obtain⟨η',rfl,h3⟩:=h2;cases hr;exact⟨_,rfl,η',rfl,h3⟩
     |ret d=>cases h2;cases hr;exact⟨_,rfl,rfl⟩
  simp only[PC.ev] at hr ⊢;rw[rH h gi,RB h fq];exact key n _ _ hr
 |each e ps lo rt a aV=>
  intro hk B ρ ρ' x h hr;obtain⟨bV,bW⟩:=hk.of_un;obtain⟨bW,ji⟩:=bW.of_un;obtain⟨ji,tB⟩:=ji.of_un;have gi:∀t,t∈lo→t∈K.o:=fun t ht=>ji.2 t ht;have key:∀(xs vo:List D),fF (a.ev Φ n) ρ ps lo rt xs vo=some x→∃x',fF (a.ev Φ n) ρ' ps lo rt xs vo=some x'∧oC K B x x':=by
   intro xs
   induction xs with
   |nil=>intro vo hr;simp only[fF,Option.some.injEq] at hr ⊢;subst hr;exact⟨_,rfl,_,rfl,h.put (fun _ h=>by cases h) gi _ _⟩
   |cons y xs fP=>
    intro vo hr;simp only[fF] at hr ⊢;cases ha:a.ev Φ n (ρ.put ps (partsOf ps y) lo vo) with
    |none=>rw[ha] at hr;cases hr
    |some z=>
     have fM:Off K (ρ'.put ps (partsOf ps y) lo vo) (ρ.put ps (partsOf ps y) lo vo) (ρ'.put ps (partsOf ps y) lo vo):=⟨h.al.put ps lo _ _,fun _ _=>rfl,fun _ _=>rfl⟩
     obtain⟨z',h1,h2⟩:=aV tB fM ha;rw[ha] at hr;rw[h1];cases z with
     |next η=>obtain⟨η',rfl,h3⟩:=h2;simp only[rH h3 gi];exact fP _ hr
     |exit i η=>
      obtain⟨η',rfl,h3⟩:=h2;simp only[rH h3 gi] at hr ⊢;have hp:=h.put (lr:=[]) (fun _ h=>by cases h) gi [] (lo.map η.o);cases hb:Nat.beq i cj<;>simp only[hb,cond_true,cond_false] at hr ⊢
      ·cases hr;exact⟨_,rfl,_,rfl,hp⟩
      ·cases rt with
       |none=>cases hr
       |some e2=>cases hr;exact⟨_,rfl,by show Out.ret _=Out.ret _;rw[PE.ev_alike e2 (hp.al.le bW)]⟩
     |ret d=>cases hr
  simp only[PC.ev] at hr ⊢;rw[PE.ev_alike e (h.al.le bV),rH h gi];exact key _ _ hr
 |meach J ps bT lo a aV=>
  intro hk B ρ ρ' x h hr;obtain⟨ji,tB⟩:=hk.of_un;have gi:∀t,t∈lo→t∈K.o:=fun t ht=>ji.2 t (List.mem_cons_of_mem _ ht);have hJ:ρ'.o J=ρ.o J:=h.al.o J (ji.2 J (List.mem_cons_self ..));have key:∀(es:D) (xs done vo jI:List D),iU (a.ev Φ n) ρ J es ps bT lo xs done vo=some jI→iU (a.ev Φ n) ρ' J es ps bT lo xs done vo=some jI:=by
   intro es xs
   induction xs with
   |nil=>intro done vo jI h;exact h
   |cons y xs fP=>
    intro done vo jI hr;simp only[iU] at hr ⊢;cases ha:a.ev Φ n ((ρ.put ps (bT.map y.tget) lo vo).setO J (.tup [.list (done++[y]),es])) with
    |none=>rw[ha] at hr;cases hr
    |some z=>
     have fM:Off K ((ρ'.put ps (bT.map y.tget) lo vo).setO J (.tup [.list (done++[y]),es])) ((ρ.put ps (bT.map y.tget) lo vo).setO J (.tup [.list (done++[y]),es])) ((ρ'.put ps (bT.map y.tget) lo vo).setO J (.tup [.list (done++[y]),es])):=
          ⟨(h.al.put ps lo _ _).setO J _,fun _ _=>rfl,fun _ _=>rfl⟩
     obtain⟨z',h1,h2⟩:=aV tB fM ha;rw[ha] at hr;rw[h1];cases z with
     |next η=>obtain⟨η',rfl,h3⟩:=h2;simp only[rH h3 gi];exact fP _ _ _ hr
     |exit i η=>cases hr
     |ret d=>cases hr
  simp only[PC.ev,rW] at hr;obtain⟨vo,⟨h1,h2⟩,rfl⟩:=hr;refine⟨.next (ρ'.put [] [] lo vo),?_,_,rfl,h.put (fun _ h=>by cases h) gi _ _⟩;simp only[PC.ev,rW];refine⟨vo,⟨by rw[hJ];exact h1,fun ys hy=>?_⟩,rfl⟩;rw[hJ] at hy ⊢;rw[rH h gi];exact key _ _ _ _ _ (h2 ys hy)
def kj:List Nat→PC→Bool
 |l,.exit id=>dH l id
 |l,.seq a b=>kj l a&&kj l b
 |l,.ite _ _ _ a b=>kj l a&&kj l b
 |l,.block id _ _ a=>kj (id::l) a
 |l,.loop _ _ a=>kj l a
 |l,.each _ _ _ _ a=>kj (cj::l) a
 |_,_=>true
theorem acy {Φ:aO}{n:Nat}:∀(c:PC) {l:List Nat},kj l c=true→∀{ρ:Env} {i:Nat} {η:Env},c.ev Φ n ρ=some (.exit i η)→i∈l:=by
 intro c
 induction c with
 |skip=>intro l _ ρ i η h;simp[PC.ev] at h
 |exit id=>intro l hl ρ i η h;simp only[PC.ev,Option.some.injEq] at h;injection h with h1 h2;subst h1;exact(lM _ _).1 hl
 |ret e=>intro l _ ρ i η h;simp[PC.ev] at h
 |is _=>intro l _ ρ i η h;simp[PC.ev] at h
 |seq a b aV cH=>
  intro l hl ρ i η h;simp only[kj,Bool.and_eq_true] at hl;simp only[PC.ev] at h;split at h
  ·exact cH hl.2 h
  ·exact aV hl.1 h
 |ite c lr lo a b aV cH=>
  intro l hl ρ i η h;simp only[kj,Bool.and_eq_true] at hl;simp only[PC.ev] at h;cases hc:(c.ev ρ).b<;>simp only[hc,cond_true,cond_false] at h
  ·split at h
   ·cases h
   ·exact cH hl.2 h
  ·split at h
   ·cases h
   ·exact aV hl.1 h
 |block id lr lo a aV=>
  intro l hl ρ i η h;simp only[PC.ev] at h;split at h
  ·cases h
  ·rename_i br ρ2 ha;cases hb:Nat.beq br id<;>simp only[hb,cond_true,cond_false] at h<;>cases h;rcases List.mem_cons.1 (aV hl ha) with e|e
   ·subst e;rw[Nat.beq_refl] at hb;cases hb
   ·exact e
  ·rename_i h1 h2;exact absurd h (h2 _ _)
 |loop lr lo a aV=>
  intro l hl ρ i η h;have key:∀(m:Nat) (vr vo:List D),dW (a.ev Φ n) ρ lr lo m vr vo=some (.exit i η)→i∈l:=by
   intro m
   induction m with
   |zero=>intro vr vo h;simp[dW] at h
   |succ m IQ=>
    intro vr vo h;simp only[dW] at h;split at h
    ·exact IQ _ _ h
    ·exact aV hl h
  exact key _ _ _ h
 |each e ps lo rt a aV=>
  intro l hl ρ i η h;have key:∀(xs vo:List D),fF (a.ev Φ n) ρ ps lo rt xs vo=some (.exit i η)→i∈l:=by
   intro xs
   induction xs with
   |nil=>intro vo h;simp[fF] at h
   |cons x xs fP=>
    intro vo h;simp only[fF] at h;split at h
    ·exact fP _ h
    ·rename_i br ρ2 ha;cases hb:Nat.beq br cj<;>simp only[hb,cond_true,cond_false] at h
     ·injection h with h;injection h with h1 h2;subst h1
      rcases List.mem_cons.1 (aV hl ha) with e|e
      ·subst e;rw[Nat.beq_refl] at hb;cases hb
      ·exact e
     ·cases rt<;>simp at h
    ·cases h
  exact key _ _ h
 |meach J ps bT lo a _=>
  intro l _ ρ i η h;simp only[PC.ev,rW] at h;obtain⟨vo,_,h⟩:=h;cases h
def QY (t:Nat):PE→Bool
 |.r u=>Nat.beq u t
 |_=>false
def QZ (t:Nat):PE→Bool
 |.o u=>Nat.beq u t
 |_=>false
def fk (kC:Nat→PE→Bool)(p:Nat→Bool):List Nat→List (Nat×PE)→List (Nat×PE)
 |_,[]=>[]
 |seen,x::l=>bif p x.1&& !dH seen x.1 then(bif kC x.1 x.2 then fk kC p (x.1::seen) l else x::fk kC p (x.1::seen) l) else fk kC p seen l
theorem Bw {kC:Nat→PE→Bool}{p:Nat→Bool}:∀{l:List (Nat×PE)} {seen:List Nat} {t:Nat},dH seen t=true→ab (fk kC p seen l) t=none
 |[],_,_,_=>rfl
 |x::l,seen,t,h=>by
  have h':dH (x.1::seen) t=true:=by rw[lM] at h ⊢;exact List.mem_cons_of_mem _ h
  simp only[fk];cases hb:(p x.1&& !dH seen x.1) with
  |false=>exact Bw h
  |true=>
   simp only[cond_true];cases kC x.1 x.2 with
   |true=>exact Bw h'
   |false=>
    simp only[cond_false,ab];have:Nat.beq x.1 t=false:=by
      cases e:Nat.beq x.1 t with
      |false=>rfl
      |true=>rw[cn e,h] at hb;simp at hb
    rw[this];exact Bw h'
theorem xf {kC:Nat→PE→Bool}{p:Nat→Bool}{dflt:Nat→PE}(cm:∀t e,kC t e=true→e=dflt t):∀{l:List (Nat×PE)} {seen:List Nat} {t:Nat},p t=true→dH seen t=false→
 (match ab (fk kC p seen l) t with|some e=>e|none=>dflt t)=(match ab l t with|some e=>e|none=>dflt t)
 |[],_,_,_,_=>rfl
 |x::l,seen,t,hp,hs=>by
  simp only[fk,ab];cases e:Nat.beq x.1 t with
  |true=>
   have e':=cn e;rw[e',hp,hs];simp only[Bool.not_false,Bool.and_self,cond_true];cases hi:kC t x.2 with
   |true=>simp only[cond_true];rw[Bw (by rw[lM];exact List.mem_cons_self ..)];exact(cm _ _ hi).symm
   |false=>simp only[cond_false,ab,e,cond_true]
  |false=>
   simp only[cond_false];cases hb:(p x.1&& !dH seen x.1) with
   |false=>exact xf cm hp hs
   |true=>
    have lJ:dH (x.1::seen) t=false:=by
      cases hm:dH (x.1::seen) t with
      |false=>rfl
      |true=>
       rcases List.mem_cons.1 ((lM _ _).1 hm) with h|h
       ·rw[h,Nat.beq_refl] at e;cases e
       ·rw[(lM _ _).2 h] at hs;cases hs
    simp only[cond_true];cases kC x.1 x.2 with
    |true=>exact xf cm hp lJ
    |false=>simp only[cond_false,ab,e];exact xf cm hp lJ
def SE.cut (s:SE)(k:Lk):SE:=⟨fk QY (ak k.r) [] s.r,fk QZ (dH k.o) [] s.o⟩
def Jh (l:List (Nat×PE)):Lk:=l.foldr (fun x k=>x.2.lk.un k) .none
def SE.lks (s:SE):Lk:=(Jh s.r).un (Jh s.o)
theorem Ji:∀{l:List (Nat×PE)} {t:Nat} {e:PE},ab l t=some e→e.lk.Le (Jh l)
 |[],_,_,h=>by cases h
 |x::l,t,e,h=>by
  simp only[ab] at h;cases hb:Nat.beq x.1 t<;>simp only[hb,cond_true,cond_false] at h
  ·exact(Ji h).trans (Lk.le_r _ _)
  ·cases h;exact Lk.le_l _ _
theorem SE.cut_al {s:SE}{L:Lk}{ρ1 ρ2:Env}(h:Alike (L.un (s.cut L).lks) ρ1 ρ2):Alike L ((s.cut L).ev ρ1) (s.ev ρ2):=by
 have hL:=h.le (Lk.le_l _ _);have hs:=h.le (Lk.le_r _ _);constructor
 ·intro t ht;show(s.getR t).ev ρ2=((s.cut L).getR t).ev ρ1;have e:(s.cut L).getR t=s.getR t:=xf (dflt:=.r) (fun t e he=>by unfold QY at he;split at he;rw[cn he];cases he) ht rfl;rw[←e];cases hl:ab (s.cut L).r t with
  |none=>have:(s.cut L).getR t=.r t:=by unfold SE.getR;rw[hl]
         rw[this];exact hL.r t ht
  |some x=>have:(s.cut L).getR t=x:=by unfold SE.getR;rw[hl]
           rw[this];exact PE.ev_alike x (hs.le ((Ji hl).trans (Lk.le_l _ _)))
 ·intro t ht;show(s.getO t).ev ρ2=((s.cut L).getO t).ev ρ1;have e:(s.cut L).getO t=s.getO t:=xf (dflt:=.o) (fun t e he=>by unfold QZ at he;split at he;rw[cn he];cases he) ((lM _ _).2 ht) rfl;rw[←e];cases hl:ab (s.cut L).o t with
  |none=>have:(s.cut L).getO t=.o t:=by unfold SE.getO;rw[hl]
         rw[this];exact hL.o t ht
  |some x=>have:(s.cut L).getO t=x:=by unfold SE.getO;rw[hl]
           rw[this];exact PE.ev_alike x (hs.le ((Ji hl).trans (Lk.le_r _ _)))
structure LC where
 next:Lk
 ov:List (Nat×Lk)
def LC.all (c:LC):Lk:=c.ov.foldr (fun x k=>x.2.un k) .none
def FU (c:LC)(Q1 Q2:Out→Prop):Prop:=
 (∀ρ1 ρ2,Alike c.next ρ1 ρ2→Q1 (.next ρ1)→Q2 (.next ρ2))∧(∀id k ρ1 ρ2,ab c.ov id=some k→Alike k ρ1 ρ2→Q1 (.exit id ρ1)→Q2 (.exit id ρ2))∧∀d,Q1 (.ret d)→Q2 (.ret d)
def dZ:LC→PT→Option (PT×Lk)
 |c,.next s=>some (.next (s.cut c.next),c.next.un (s.cut c.next).lks)
 |c,.exit id s=>(ab c.ov id).map fun k=>(.exit id (s.cut k),k.un (s.cut k).lks)
 |_,.ret e=>some (.ret e,e.lk)
 |c,.chk e k=>(dZ c k).map fun r=>(.chk e r.1,e.lk.un r.2)
 |c,.ite e a b=>(dZ c a).bind fun x=>(dZ c b).map fun y=>(.ite e x.1 y.1,e.lk.un (x.2.un y.2))
 |c,.call s gs dst f args k=>(dZ c k).map fun r=>(.call (s.cut (r.2.un (jh gs))) gs dst f args r.1,(PE.lks args).un ((r.2.un (jh gs)).un (s.cut (r.2.un (jh gs))).lks))
 |c,.callc s gs dst e args k=>(dZ c k).map fun r=>(.callc (s.cut (r.2.un (jh gs))) gs dst e args r.1,(e.lk.un (PE.lks args)).un ((r.2.un (jh gs)).un (s.cut (r.2.un (jh gs))).lks))
 |c,.mcall s j f args k=>(dZ c k).map fun r=>(.mcall (s.cut r.2) j f args r.1,(PE.lks args).un (r.2.un (s.cut r.2).lks))
 |c,.iteS s e lr lo a b k=>(dZ c k).bind fun r=>(dZ ⟨r.2,c.ov⟩ a).bind fun x=>(dZ ⟨r.2,c.ov⟩ b).map fun y=>
    (.iteS (s.cut (r.2.un (x.2.un y.2))) e lr lo x.1 y.1 r.1,e.lk.un ((r.2.un (x.2.un y.2)).un (s.cut (r.2.un (x.2.un y.2))).lks))
 |c,.blockS s id lr lo a k=>(dZ c k).bind fun r=>(dZ ⟨r.2,(id,r.2)::c.ov⟩ a).map fun x=>(.blockS (s.cut (r.2.un x.2)) id lr lo x.1 r.1,(r.2.un x.2).un (s.cut (r.2.un x.2)).lks)
 |c,.brk s p k=>(dZ c k).bind fun r=>bif kj (c.ov.map (·.1)) p then some (.brk (s.cut (p.lk.un (r.2.un c.all))) p r.1,(p.lk.un (r.2.un c.all)).un (s.cut (p.lk.un (r.2.un c.all))).lks) else none
theorem LC.all_le:∀{l:List (Nat×Lk)} {id:Nat} {k:Lk},ab l id=some k→k.Le (l.foldr (fun x k=>x.2.un k) .none)
 |[],_,_,h=>by cases h
 |x::l,t,e,h=>by
  simp only[ab] at h;cases hb:Nat.beq x.1 t<;>simp only[hb,cond_true,cond_false] at h
  ·exact(LC.all_le h).trans (Lk.le_r _ _)
  ·cases h;exact Lk.le_l _ _
theorem Rk:∀{l:List (Nat×Lk)} {id:Nat},id∈l.map (·.1)→∃k,ab l id=some k
 |[],_,h=>by cases h
 |x::l,id,h=>by
  simp only[ab];cases hb:Nat.beq x.1 id with
  |true=>exact⟨_,rfl⟩
  |false=>
   simp only[cond_false];rcases List.mem_cons.1 h with e|h
   ·rw[e,Nat.beq_refl] at hb;cases hb
   ·exact Rk h
theorem alD {T:cB}:∀(t:PT) {c:LC} {t':PT} {L:Lk},dZ c t=some (t',L)→∀{Q1 Q2:Out→Prop} {ρ1 ρ2:Env},FU c Q1 Q2→Alike L ρ1 ρ2→ax T t' ρ1 Q1→ax T t ρ2 Q2:=by
 intro t
 induction t with
 |next s=>
  intro c t' L hp Q1 Q2 ρ1 ρ2 hQ hA h;simp only[dZ,Option.some.injEq,Prod.mk.injEq] at hp;obtain⟨rfl,rfl⟩:=hp;exact hQ.1 _ _ (SE.cut_al hA) h
 |exit id s=>
  intro c t' L hp Q1 Q2 ρ1 ρ2 hQ hA h;simp only[dZ,Option.map_eq_some_iff,Prod.mk.injEq] at hp;obtain⟨k,hk,rfl,rfl⟩:=hp;exact hQ.2.1 _ k _ _ hk (SE.cut_al hA) h
 |ret e=>
  intro c t' L hp Q1 Q2 ρ1 ρ2 hQ hA h;simp only[dZ,Option.some.injEq,Prod.mk.injEq] at hp;obtain⟨rfl,rfl⟩:=hp;show Q2 (.ret (e.ev ρ2));rw[PE.ev_alike e hA];exact hQ.2.2 _ h
 |chk e k ih=>
  intro c t' L hp Q1 Q2 ρ1 ρ2 hQ hA h;simp only[dZ,Option.map_eq_some_iff,Prod.mk.injEq] at hp;obtain⟨r,hr,rfl,rfl⟩:=hp;exact⟨by rw[PE.ev_alike e (hA.le (Lk.le_l _ _))];exact h.1,ih hr hQ (hA.le (Lk.le_r _ _)) h.2⟩
 |ite e a b aV cH=>
  intro c t' L hp Q1 Q2 ρ1 ρ2 hQ hA h;simp only[dZ,Option.bind_eq_some_iff,Option.map_eq_some_iff,Prod.mk.injEq] at hp;obtain⟨x,hx,y,hy,rfl,rfl⟩:=hp;have h2:=hA.le (Lk.le_r _ _);simp only[ax] at h ⊢;rw[PE.ev_alike e (hA.le (Lk.le_l _ _))];split
  ·rename_i hc;rw[if_pos hc] at h;exact aV hx hQ (h2.le (Lk.le_l _ _)) h
  ·rename_i hc;rw[if_neg hc] at h;exact cH hy hQ (h2.le (Lk.le_r _ _)) h
 |call s gs dst f args k ih=>
  intro c t' L hp Q1 Q2 ρ1 ρ2 hQ hA h;simp only[dZ,Option.map_eq_some_iff,Prod.mk.injEq] at hp;obtain⟨r,hr,rfl,rfl⟩:=hp;have hS:=SE.cut_al (hA.le (Lk.le_r _ _));simp only[ax] at h ⊢;rw[PE.evs_alike args (hA.le (Lk.le_l _ _)),tF (hS.le (Lk.le_r _ _))];split
  ·rename_i hc;rw[if_pos hc] at h;obtain⟨d,hd,h⟩:=h;exact⟨d,hd,ih hr hQ ((hS.le (Lk.le_l _ _)).setR dst d) h⟩
  ·rename_i hc;rw[if_neg hc] at h;exact ih hr hQ (hS.le (Lk.le_l _ _)) h
 |callc s gs dst e args k ih=>
  intro c t' L hp Q1 Q2 ρ1 ρ2 hQ hA h;simp only[dZ,Option.map_eq_some_iff,Prod.mk.injEq] at hp;obtain⟨r,hr,rfl,rfl⟩:=hp;have hS:=SE.cut_al (hA.le (Lk.le_r _ _));have hE:=hA.le (Lk.le_l _ _);simp only[ax] at h ⊢;rw[PE.ev_alike e (hE.le (Lk.le_l _ _)),PE.evs_alike args (hE.le (Lk.le_r _ _)),tF (hS.le (Lk.le_r _ _))];split
  ·rename_i hc;rw[if_pos hc] at h;obtain⟨f,caps,d,he,hd,h⟩:=h;exact⟨f,caps,d,he,hd,ih hr hQ ((hS.le (Lk.le_l _ _)).setR dst d) h⟩
  ·rename_i hc;rw[if_neg hc] at h;exact ih hr hQ (hS.le (Lk.le_l _ _)) h
 |mcall s j f args k ih=>
  intro c t' L hp Q1 Q2 ρ1 ρ2 hQ hA h;simp only[dZ,Option.map_eq_some_iff,Prod.mk.injEq] at hp;obtain⟨r,hr,rfl,rfl⟩:=hp;have hS:=SE.cut_al (hA.le (Lk.le_r _ _));simp only[ax] at h ⊢;rw[PE.evs_alike args (hA.le (Lk.le_l _ _))];obtain⟨d,hd,h⟩:=h;exact⟨d,hd,ih hr hQ (hS.setO j d) h⟩
 |iteS s e lr lo a b k aV cH gE=>
  intro c t' L hp Q1 Q2 ρ1 ρ2 hQ hA h;simp only[dZ,Option.bind_eq_some_iff,Option.map_eq_some_iff,Prod.mk.injEq] at hp;obtain⟨r,hr,x,hx,y,hy,rfl,rfl⟩:=hp;have hS:=SE.cut_al (hA.le (Lk.le_r _ _));have BO:=hS.le (Lk.le_l _ _);have xt:=hS.le ((Lk.le_l _ _).trans (Lk.le_r _ _));have hSy:=hS.le ((Lk.le_r _ _).trans (Lk.le_r _ _))
  have rel:FU ⟨r.2,c.ov⟩ (ij ((s.cut (r.2.un (x.2.un y.2))).ev ρ1) lr lo (eU (fun ρ'=>ax T r.1 ρ' Q1) Q1)) (ij (s.ev ρ2) lr lo (eU (fun ρ'=>ax T k ρ' Q2) Q2)):=
   ⟨fun η1 η2 ha hq=>gE hr hQ (BO.join ha lr lo) hq,fun id k' η1 η2 hk ha hq=>hQ.2.1 id k' _ _ hk ha hq,fun d hq=>hQ.2.2 d hq⟩
  simp only[ax] at h ⊢;rw[PE.ev_alike e (hA.le (Lk.le_l _ _))];split
  ·rename_i hc;rw[if_pos hc] at h;exact aV hx rel xt h
  ·rename_i hc;rw[if_neg hc] at h;exact cH hy rel hSy h
 |blockS s id lr lo a k aV gE=>
  intro c t' L hp Q1 Q2 ρ1 ρ2 hQ hA h;simp only[dZ,Option.bind_eq_some_iff,Option.map_eq_some_iff,Prod.mk.injEq] at hp;obtain⟨r,hr,x,hx,rfl,rfl⟩:=hp;have hS:=SE.cut_al hA;have BO:=hS.le (Lk.le_l _ _);refine aV hx (Q1:=je ((s.cut (r.2.un x.2)).ev ρ1) id lr lo (eU (fun ρ'=>ax T r.1 ρ' Q1) Q1)) ⟨fun η1 η2 ha hq=>gE hr hQ (BO.join ha lr lo) hq,fun br k' η1 η2 hk ha hq=>?_,fun d hq=>hQ.2.2 d hq⟩ (hS.le (Lk.le_r _ _)) h;simp only[je] at hq ⊢;simp only[ab] at hk;by_cases e:br=id
  ·subst e;simp only[Nat.beq_refl,cond_true,Option.some.injEq] at hk;subst hk;rw[if_pos rfl] at hq ⊢;exact gE hr hQ (BO.join ha lr lo) hq
  ·rw[if_neg e] at hq ⊢;rw[dO (fun h=>e h.symm),cond_false] at hk;exact hQ.2.1 br k' _ _ hk ha hq
 |brk s p k gE=>
  intro c t' L hp Q1 Q2 ρ1 ρ2 hQ hA h;simp only[dZ,Option.bind_eq_some_iff] at hp;obtain⟨r,hr,hp⟩:=hp;cases hx:kj (c.ov.map (·.1)) p<;>simp only[hx,cond_true,cond_false,Option.some.injEq,Prod.mk.injEq] at hp
  ·cases hp
  obtain⟨rfl,rfl⟩:=hp;have hS:=SE.cut_al hA;have fM:Off (p.lk.un (r.2.un c.all)) (s.ev ρ2) ((s.cut (p.lk.un (r.2.un c.all))).ev ρ1) (s.ev ρ2):=⟨hS,fun _ _=>rfl,fun _ _=>rfl⟩
  obtain⟨x,hq,n0,hn⟩:=h;have step:=fun n (hle:n0≤n)=>PC.ev_off p (Lk.le_l _ _) fM (hn n hle);obtain⟨x',h1,h2⟩:=step n0 (Nat.le_refl _);refine⟨x',?_,n0,fun n hle=>?_⟩
  ·cases x with
   |next η=>obtain⟨η',rfl,h3⟩:=h2;exact gE hr hQ (h3.al.le ((Lk.le_l _ _).trans (Lk.le_r _ _))) hq
   |exit i η=>
    obtain⟨η',rfl,h3⟩:=h2;obtain⟨k',bB⟩:=Rk (acy p hx (hn n0 (Nat.le_refl _)));exact hQ.2.1 i k' _ _ bB (h3.al.le ((LC.all_le bB).trans ((Lk.le_r _ _).trans (Lk.le_r _ _)))) hq
   |ret d=>cases h2;exact hQ.2.2 d hq
  ·obtain⟨x2,h3,h4⟩:=step n hle;rw[h3,h2.uniq h4]
def yV (c:LC)(t:PT):PT:=match dZ c t with|some r=>r.1|none=>t
theorem Ey {T:cB}{c:LC}{t:PT}{Q:Out→Prop}{ρ:Env}(hQ:FU c Q Q)(h:ax T (yV c t) ρ Q):ax T t ρ Q:=by
 unfold yV at h;split at h
 ·rename_i r hr;exact alD t hr hQ ⟨fun _ _=>rfl,fun _ _=>rfl⟩ h
 ·exact h
def Wk (c:PC):PT:=sx c [] .id (fun _ s=>.next s) (fun _ id s=>.exit id s)
theorem Wl {T:cB}{c:PC}{ρ:Env}{Q:Out→Prop}(h:ax T (Wk c) ρ Q):aU T c ρ Q:=
 LS (s:=.id) c (bu.ok_nil _) h (fun ρ' aa s _ _ h=>h) (fun ρ' aa id s _ _ h=>h) (fun _ _ _ h=>h) (fun _ h=>h)
def tree (c:PC):PT:=yV ⟨.none,[]⟩ (Wk c)
theorem Nj {T:cB}{c:PC}{ρ:Env}{d:D}(h:ax T (tree c) ρ fun x=>x=.ret d):aU T c ρ fun x=>x=.ret d:=
 Wl (Ey ⟨fun _ _ _ h=>(by cases h),fun _ _ _ _ _ _ h=>(by cases h),fun _ h=>h⟩ h)
def SE.keep (s:SE)(lr lo:List Nat):SE:=⟨lr.map fun t=>(t,s.getR t),lo.map fun t=>(t,s.getO t)⟩
theorem SE.keep_r (s:SE)(lr lo:List Nat)(ρ:Env):lr.map ((s.keep lr lo).ev ρ).r=lr.map (s.ev ρ).r:=by
 apply List.map_congr_left;intro t ht;show((s.keep lr lo).getR t).ev ρ=(s.getR t).ev ρ;have:=rF (f:=fun t=>s.getR t) (l:=[]) (u:=t) lr;rw[List.append_nil,if_pos ht] at this;have e:(s.keep lr lo).getR t=s.getR t:=by unfold SE.getR SE.keep;simp only[];rw[this];rfl
 rw[e]
theorem SE.keep_o (s:SE)(lr lo:List Nat)(ρ:Env):lo.map ((s.keep lr lo).ev ρ).o=lo.map (s.ev ρ).o:=by
 apply List.map_congr_left;intro t ht;show((s.keep lr lo).getO t).ev ρ=(s.getO t).ev ρ;have:=rF (f:=fun t=>s.getO t) (l:=[]) (u:=t) lo;rw[List.append_nil,if_pos ht] at this;have e:(s.keep lr lo).getO t=s.getO t:=by unfold SE.getO SE.keep;simp only[];rw[this];rfl
 rw[e]
def VP (id:Nat)(bf be lr lo:List Nat)(a:PC):PT:=
 sx a [] .id (fun _ s=>.next (s.keep lr lo)) (fun _ br s=>bif Nat.beq br id then .exit id (s.keep bf be) else .exit br s)
def dz (ρ:Env)(id:Nat)(bf be lr lo:List Nat)(K:List D→List D→Prop)(Q:Out→Prop):Out→Prop
 |.next ρ'=>K (lr.map ρ'.r) (lo.map ρ'.o)
 |.exit br ρ'=>if br=id then Q (.next (ρ.put bf (bf.map ρ'.r) be (be.map ρ'.o))) else Q (.exit br ρ')
 |.ret d=>Q (.ret d)
def round (id:Nat)(bf be lr lo:List Nat)(a:PC):PT:=yV ⟨⟨bits lr,lo⟩,[(id,⟨bits bf,be⟩)]⟩ (VP id bf be lr lo a)
theorem RA {k:Lk}{lr:List Nat}{ρ1 ρ2:Env}(h:Alike k ρ1 ρ2)(hk:∀t,t∈lr→ak k.r t=true):lr.map ρ2.r=lr.map ρ1.r:=List.map_congr_left fun t ht=>h.r t (hk t ht)
theorem CI {k:Lk}{lo:List Nat}{ρ1 ρ2:Env}(h:Alike k ρ1 ρ2)(hk:∀t,t∈lo→t∈k.o):lo.map ρ2.o=lo.map ρ1.o:=List.map_congr_left fun t ht=>h.o t (hk t ht)
theorem amI {T:cB}{id:Nat}{bf be lr lo:List Nat}{a:PC}{ρ ρ0:Env}{K:List D→List D→Prop}{Q:Out→Prop}(h:ax T (round id bf be lr lo a) ρ (dz ρ0 id bf be lr lo K Q)):ax T (VP id bf be lr lo a) ρ (dz ρ0 id bf be lr lo K Q):=by
 refine Ey ⟨fun ρ1 ρ2 ha hq=>?_,fun br k ρ1 ρ2 hk ha hq=>?_,fun d hq=>hq⟩ h
 ·simp only[dz] at hq ⊢;rw[RA ha fun t ht=>Gt ht,CI ha fun t ht=>ht];exact hq
 ·simp only[ab] at hk;cases hb:Nat.beq id br<;>simp only[hb,cond_true,cond_false] at hk
  ·cases hk
  ·cases hk;have:=cn hb;subst this;simp only[dz,if_true] at hq ⊢;rw[RA ha fun t ht=>Gt ht,CI ha fun t ht=>ht];exact hq
theorem aU.forLoop {T:cB}{id:Nat}{bf be lr lo:List Nat}{a:PC}{ρ:Env}{Q:Out→Prop}{α:Type}(inv:α→List D→List D→Prop)(pD:α→Nat)(s0:α)(h0:inv s0 (lr.map ρ.r) (lo.map ρ.o))
 (step:∀s vr vo,inv s vr vo→ax T (round id bf be lr lo a) (ρ.put lr vr lo vo) (dz ρ id bf be lr lo (fun vr vo=>∃s',pD s'<pD s∧inv s' vr vo) Q)):aU T (.block id bf be (.loop lr lo a)) ρ Q:=by
 refine .block (.loop inv pD s0 h0 fun s vr vo hi=>?_);have h:=amI (step s vr vo hi);refine LS (s:=.id) a (bu.ok_nil _) h (fun ρ' aa s' _ _ h=>?_) (fun ρ' aa br s' _ _ h=>?_) (fun _ br ρ' h=>?_) (fun d h=>h)
 ·simp only[ax,dz] at h;rw[SE.keep_r,SE.keep_o] at h;exact h
 ·simp only[eU,je];by_cases cm:br=id
  ·subst cm;simp only[Nat.beq_refl,cond_true,ax,dz,if_true] at h;rw[SE.keep_r,SE.keep_o] at h;rw[if_pos rfl];exact h
  ·rw[dO cm,cond_false] at h;simp only[ax,dz] at h;rw[if_neg cm] at h ⊢;exact h
 ·simp only[eU,je];simp only[dz] at h;split
  ·rename_i e;rw[if_pos e] at h;exact h
  ·rename_i e;rw[if_neg e] at h;exact h
def VQ (lo:List Nat)(a:PC):PT:=sx a [] .id (fun _ s=>.next (s.keep [] lo)) (fun _ id s=>.exit id (s.keep [] lo))
def oy (lo:List Nat)(a:PC):PT:=yV ⟨⟨0,lo⟩,[(cj,⟨0,lo⟩)]⟩ (VQ lo a)
theorem amG {T:cB}{lo:List Nat}{a:PC}{ρ:Env}{Q:Out→Prop}(hn:∀ρ1 ρ2,lo.map ρ2.o=lo.map ρ1.o→Q (.next ρ1)→Q (.next ρ2))(hx:∀ρ1 ρ2,lo.map ρ2.o=lo.map ρ1.o→Q (.exit cj ρ1)→Q (.exit cj ρ2))(h:ax T (oy lo a) ρ Q):ax T (VQ lo a) ρ Q:=by
 refine Ey ⟨fun ρ1 ρ2 ha hq=>hn ρ1 ρ2 (CI ha fun t ht=>ht) hq,fun br k ρ1 ρ2 hk ha hq=>?_,fun d hq=>hq⟩ h;simp only[ab] at hk;cases hb:Nat.beq cj br<;>simp only[hb,cond_true,cond_false] at hk
 ·cases hk
 ·cases hk;have:=cn hb;subst this;exact hx ρ1 ρ2 (CI ha fun t ht=>ht) hq
theorem aU.meachR {T:cB}{J:Nat}{ps bT lo:List Nat}{a:PC}{ρ:Env}{Q:Out→Prop}(es:List (D×D))(he:ρ.o J=.tup [.list [],.map es])(inv:List D→List D→Prop)(h0:inv [] (lo.map ρ.o))
 (step:∀done x rest vo,(done++x::rest).Perm (fi (.map es))→inv done vo→ax T (oy lo a) ((ρ.put ps (bT.map x.tget) lo vo).setO J (.tup [.list (done++[x]),.map es])) (fun y=>∃ρ',y=.next ρ'∧inv (done++[x]) (lo.map ρ'.o)))
 (last:∃vo,(∀done,done.Perm (fi (.map es))→∀jI,inv done jI→jI=vo)∧Q (.next (ρ.put [] [] lo vo))):aU T (.meach J ps bT lo a) ρ Q:=by
 refine .meach es he inv h0 (fun done x rest vo hp hi=>?_) last;have h:=amG (fun ρ1 ρ2 e ⟨ρ',e1,hq⟩=>by cases e1;exact⟨_,rfl,by rw[e];exact hq⟩) (fun ρ1 ρ2 e ⟨ρ',e1,hq⟩=>by cases e1) (step done x rest vo hp hi);refine LS (s:=.id) a (bu.ok_nil _) h (fun ρ' aa s' _ _ h=>?_) (fun ρ' aa br s' _ _ h=>?_) (fun _ br ρ' h=>?_) (fun d h=>?_)
 ·simp only[ax] at h;obtain⟨ρ2,e,h⟩:=h;injection e with e;subst e;rw[SE.keep_o] at h;exact⟨_,rfl,h⟩
 ·simp only[ax] at h;obtain⟨ρ2,e,h⟩:=h;cases e
 ·obtain⟨ρ2,e,_⟩:=h;cases e
 ·obtain⟨ρ2,e,_⟩:=h;cases e
theorem sG {T:cB}:∀(t:PT) {ρ:Env} {Q Q':Out→Prop},(∀x,Q x→Q' x)→ax T t ρ Q→ax T t ρ Q':=by
 intro t
 induction t with
 |next s=>intro ρ Q Q' h hx;exact h _ hx
 |exit id s=>intro ρ Q Q' h hx;exact h _ hx
 |ret e=>intro ρ Q Q' h hx;exact h _ hx
 |chk e k ih=>intro ρ Q Q' h hx;exact⟨hx.1,ih h hx.2⟩
 |ite c a b aV cH=>
  intro ρ Q Q' h hx;simp only[ax] at hx ⊢;split
  ·rename_i hc;rw[if_pos hc] at hx;exact aV h hx
  ·rename_i hc;rw[if_neg hc] at hx;exact cH h hx
 |call s gs dst f args k ih=>
  intro ρ Q Q' h hx;simp only[ax] at hx ⊢;split
  ·rename_i hc;rw[if_pos hc] at hx;obtain⟨d,hd,hx⟩:=hx;exact⟨d,hd,ih h hx⟩
  ·rename_i hc;rw[if_neg hc] at hx;exact ih h hx
 |callc s gs dst e args k ih=>
  intro ρ Q Q' h hx;simp only[ax] at hx ⊢;split
  ·rename_i hc;rw[if_pos hc] at hx;obtain⟨f,c,d,he,hd,hx⟩:=hx;exact⟨f,c,d,he,hd,ih h hx⟩
  ·rename_i hc;rw[if_neg hc] at hx;exact ih h hx
 |mcall s j f args k ih=>intro ρ Q Q' h hx;obtain⟨d,hd,hx⟩:=hx;exact⟨d,hd,ih h hx⟩
 |iteS s c lr lo a b k aV cH gE=>
  intro ρ Q Q' h hx
  have hq:∀x,ij (s.ev ρ) lr lo (eU (fun ρ'=>ax T k ρ' Q) Q) x→ij (s.ev ρ) lr lo (eU (fun ρ'=>ax T k ρ' Q') Q') x:=by
   intro x hx;cases x with
   |next ρ'=>exact gE h hx
   |exit id ρ'=>exact h _ hx
   |ret d=>exact h _ hx
  simp only[ax] at hx ⊢;split
  ·rename_i hc;rw[if_pos hc] at hx;exact aV hq hx
  ·rename_i hc;rw[if_neg hc] at hx;exact cH hq hx
 |blockS s id lr lo a k aV gE=>
  intro ρ Q Q' h hx;refine aV (fun x hx=>?_) hx;cases x with
  |next ρ'=>exact gE h hx
  |exit br ρ'=>
   simp only[je] at hx ⊢;split
   ·rename_i e;rw[if_pos e] at hx;exact gE h hx
   ·rename_i e;rw[if_neg e] at hx;exact h _ hx
  |ret d=>exact h _ hx
 |brk s c k ih=>
  intro ρ Q Q' h hx;refine aU.mono hx fun x hx=>?_;cases x with
  |next ρ'=>exact ih h hx
  |exit id ρ'=>exact h _ hx
  |ret d=>exact h _ hx
theorem aU.forRounds {T:cB}{id:Nat}{bf be lr lo:List Nat}{a:PC}{ρ:Env}{Q:Out→Prop}(N:Nat)(str dM:Nat→List D)(h0:lr.map ρ.r=str 0∧lo.map ρ.o=dM 0)
 (step:∀k,k<N→ax T (round id bf be lr lo a) (ρ.put lr (str k) lo (dM k)) (dz ρ id bf be lr lo (fun vr vo=>vr=str (k+1)∧vo=dM (k+1)) Q))
 (last:ax T (round id bf be lr lo a) (ρ.put lr (str N) lo (dM N)) (dz ρ id bf be lr lo (fun _ _=>False) Q)):aU T (.block id bf be (.loop lr lo a)) ρ Q:=by
 refine .forLoop (α:=Nat) (fun k vr vo=>k≤N∧vr=str k∧vo=dM k) (fun k=>N-k) 0 ⟨Nat.zero_le _,h0.1,h0.2⟩ ?_;rintro k vr vo ⟨hk,rfl,rfl⟩;have mono:∀{K K':List D→List D→Prop},(∀a b,K a b→K' a b)→∀x,dz ρ id bf be lr lo K Q x→dz ρ id bf be lr lo K' Q x:=by
  intro K K' h x hx;cases x with
  |next ρ'=>exact h _ _ hx
  |exit br ρ'=>exact hx
  |ret d=>exact hx
 by_cases ae:k<N
 ·exact sG _ (mono fun a b ⟨h1,h2⟩=>⟨k+1,by omega,by omega,h1,h2⟩) (step k ae)
 ·obtain rfl:k=N:=by omega
  exact sG _ (mono fun a b h=>h.elim) last
theorem LH {ρ:Env}{id:Nat}{bf be lr lo:List Nat}{K K':List D→List D→Prop}{Q:Out→Prop}(h:∀a b,K a b→K' a b):∀x,dz ρ id bf be lr lo K Q x→dz ρ id bf be lr lo K' Q x:=by
 intro x hx;cases x with
 |next ρ'=>exact h _ _ hx
 |exit br ρ'=>exact hx
 |ret d=>exact hx
theorem aU.scan {T:cB}{id:Nat}{bf be lr lo:List Nat}{a:PC}{ρ:Env}{Q:Out→Prop}(N:Nat)(ok:Nat→Prop)(str dM:Nat→List D)(h0:lr.map ρ.r=str 0∧lo.map ρ.o=dM 0)
 (step:∀k,k<N→(∀j,j<k→ok j)→ok k→ax T (round id bf be lr lo a) (ρ.put lr (str k) lo (dM k)) (dz ρ id bf be lr lo (fun vr vo=>vr=str (k+1)∧vo=dM (k+1)) Q))
 (bad:∀k,k<N→(∀j,j<k→ok j)→¬ok k→ax T (round id bf be lr lo a) (ρ.put lr (str k) lo (dM k)) (dz ρ id bf be lr lo (fun _ _=>False) Q))
 (last:(∀j,j<N→ok j)→ax T (round id bf be lr lo a) (ρ.put lr (str N) lo (dM N)) (dz ρ id bf be lr lo (fun _ _=>False) Q)):aU T (.block id bf be (.loop lr lo a)) ρ Q:=by
 refine .forLoop (α:=Nat) (fun k vr vo=>k≤N∧(∀j,j<k→ok j)∧vr=str k∧vo=dM k) (fun k=>N-k) 0 ⟨Nat.zero_le _,fun j hj=>by omega,h0.1,h0.2⟩ ?_;rintro k vr vo ⟨hk,hj,rfl,rfl⟩;by_cases ae:k<N
 ·by_cases aw:ok k
  ·refine sG _ (LH fun a b ⟨h1,h2⟩=>⟨k+1,by omega,by omega,fun j hjk=>?_,h1,h2⟩) (step k ae hj aw);by_cases e:j=k
   ·subst e;exact aw
   ·exact hj j (by omega)
  ·exact sG _ (LH fun a b h=>h.elim) (bad k ae hj aw)
 ·obtain rfl:k=N:=by omega
  exact sG _ (LH fun a b h=>h.elim) (last hj)
def aQ (n:Nat)(e:PE):PE:=.mk ((List.range n).map fun i=>.cell e i)
def jc (n:Nat)(d:D):D:=.agg ((List.range n).flatMap fun i=>(d.c i).cells)
theorem acw (ρ:Env)(n:Nat)(e:PE):(aQ n e).ev ρ=jc n (e.ev ρ):=by
 have key:∀l:List Nat,PE.evc ρ (l.map fun i=>.cell e i)=l.flatMap fun i=>((e.ev ρ).c i).cells:=by
  intro l
  induction l with
  |nil=>rfl
  |cons i l ih=>simp only[List.map_cons,PE.evc,PE.ev,List.flatMap_cons,ih]
 show D.agg _=_;rw[key];rfl
end Cx
