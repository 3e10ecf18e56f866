/-
  Shared texts of this claim.
-/
import Derived.Test.YtbeeplempgffoaaGreatDoorDAF
import Derived.Below
import Derived.ChangeSame
import Derived.WalkKit
import Derived.ProofKit
import Derived.OpenShut
import Derived.Carry
import Derived.JoinedCond
set_option linter.unusedSimpArgs false
set_option linter.unusedVariables false
noncomputable section
namespace Cx
open Go Go.RowKit Go.ChangeShapes Go.WideShapes
def nq (w:World):Im:=
 ⟨fun k o=>w.cell? ⟨k,o,none⟩,fun _=>none⟩
theorem aqU (w:World):(nq w).ok w:=by
 exact⟨fun k o v h=>h,fun k es h=>by cases h⟩
def BX (P:Program)(r:TypeId→Option Ty):List Field→Nat→Option (List Ty)
 |[],_=>some []
 |f::fs,off=>(r f.type).bind fun ft=>
  bif Nat.beq f.offset off&&Nat.beq (P.cellsOf f.type) ft.flat.length then(BX P r fs (off+ft.flat.length)).map (ft.flat++·) else none
def gr (P:Program):Nat→TypeId→Option Ty
 |0,_=>none
 |n+1,t=>
  match P.underlying t with
  |some .bool=>some .bool
  |some (.int k)=>some (.int k)
  |some .string=>some .str
  |some (.slice e)=>bif s9 P e then some (.slice .trm) else(gr P n e).bind fun te=>bif Nat.beq (P.cellsOf e) te.flat.length&&Nat.ble 1 te.flat.length then some (.slice te) else none
  |some (.struct fs)=>(BX P (gr P n) fs.toList 0).bind fun ts=>bif Nat.beq (P.cellsOf t) ts.length then some (.agg ts) else none
  |_=>none
theorem aqZ {P:Program}{e:TypeId}(h:s9 P e=true)(n:Nat):gr P (n+2) e=some .trmA∧P.cellsOf e=3:=by
 unfold s9 at h;split at h
 case h_2=>cases h
 rename_i fs hu;split at h
 case h_2=>cases h
 rename_i f0 f1 f2 uE;simp only[az] at h;obtain⟨⟨⟨⟨⟨⟨⟨⟨⟨h0,h1⟩,h2⟩,o0⟩,o1⟩,o2⟩,c0⟩,c1⟩,c2⟩,c3⟩:=h;split at h0
 case h_2=>cases h0
 rename_i u0;split at h1
 case h_2=>cases h1
 rename_i u1;split at h2
 case h_2=>cases h2
 rename_i e' u2;obtain rfl:=aN h2;have r0:gr P (n+1) f0.type=some (.int .i64):=by simp[gr,u0]
 have r1:gr P (n+1) f1.type=some (.int .i64):=by simp[gr,u1]
 have ht:s9 P e'=true:=by
  unfold s9;rw[hu];simp only[uE];simp[u0,u1,u2,aN o0,aN o1,aN o2,aN c0,aN c1,aN c2,aN c3]
 have r2:gr P (n+1) f2.type=some (.slice .trm):=by simp[gr,u2,ht]
 refine⟨?_,aN c3⟩;show gr P (n+1+1) e'=_;rw[gr,hu];simp only[uE,BX,r0,r1,r2,vY,Ty.flat,mS,qA,o0,c0,Bool.and_self,cond_true];simp[aN o1,aN o2,aN c1,aN c2,aN c3,Ty.trmA]
theorem US {P:Program}{n:Nat}{t:TypeId}{ty:Ty}(h:gr P n t=some ty):ty.rowT=true∨ty.one=true:=by
 cases n with
 |zero=>simp[gr] at h
 |succ n=>
  simp only[gr] at h;split at h
  ·cases h;exact .inr rfl
  ·cases h;exact .inr rfl
  ·cases h;exact .inr rfl
  ·rename_i e _;cases ht:s9 P e<;>simp only[ht,cond_true,cond_false] at h
   ·simp only[aG] at h;obtain⟨te,_,h⟩:=h;cases hb:(Nat.beq (P.cellsOf e) te.flat.length&&Nat.ble 1 te.flat.length)<;>simp only[hb,cond_true,cond_false] at h
    ·cases h
    ·cases h;exact .inr rfl
   ·cases h;exact .inr rfl
  ·rename_i fs _;simp only[aG] at h;obtain⟨ts,_,h⟩:=h;cases hb:Nat.beq (P.cellsOf t) ts.length<;>simp only[hb,cond_true,cond_false] at h
   ·cases h
   ·cases h;exact .inl rfl
  ·cases h
def mV (cap:Nat→Option CSig)(σ:Im)(ts:List Ty)(cs:List Value)(ds:List D):Prop:=
 cs.length=ts.length∧ds.length=ts.length∧∀(i:Nat) (u:Ty),ts[i]?=some u→Rep cap σ u (cs.getD i undef) (ds.getD i .none)∧u.one=true
theorem mV.one {cap:Nat→Option CSig}{σ:Im}{t:Ty}{v:Value}{d:D}(h:Rep cap σ t v d)(ht:t.one=true):mV cap σ [t] [v] [d]:=
 ⟨rfl,rfl,fun i u hu=>by
   cases i with
   |zero=>simp at hu;subst hu;exact⟨h,ht⟩
   |succ i=>simp at hu⟩
theorem mV.append {cap:Nat→Option CSig}{σ:Im}{ts us:List Ty}{cs vs:List Value}{ds es:List D}(h:mV cap σ ts cs ds)(k:mV cap σ us vs es):mV cap σ (ts++us) (cs++vs) (ds++es):=by
 obtain⟨h1,h2,h3⟩:=h;obtain⟨k1,k2,k3⟩:=k;refine⟨by simp[h1,k1],by simp[h2,k2],fun i u hu=>?_⟩;by_cases hi:i<ts.length
 ·rw[nT hi] at hu;have:=h3 i u hu;rw[bh,bh,nT (by omega),nT (by omega)];rw[bh,bh] at this;exact this
 ·rw[oZ (by omega)] at hu;have:=k3 _ u hu;rw[bh,bh,oZ (by omega),oZ (by omega),h1,h2];rw[bh,bh] at this;exact this
def ZR (ag:Bool)(ds:List D):D:=if ag then .agg ds else ds.getD 0 .none
theorem amv (t:Ty):t.flat.length=t.size:=by cases t<;>rfl
theorem Rep.ofRow {cap:Nat→Option CSig}{σ:Im}{t:Ty}{cs:List Value}{ds:List D}(iz:t.rowT=true∨t.one=true)(h:mV cap σ t.flat cs ds):Rep cap σ t (Cx.rowOf t.rowT cs) (ZR t.rowT ds):=by
 obtain⟨h1,h2,h3⟩:=h;cases t with
 |agg ts=>exact .agg ts cs ds h1 h2 (fun i u hu=>(h3 i u hu).1) (fun i u hu=>(h3 i u hu).2)
 |trm=>simp[Ty.rowT,Ty.one] at iz
 |_=>exact(h3 0 _ rfl).1
theorem avY {cap:Nat→Option CSig}{σ:Im}{t:Ty}{cs:List Value}{ds:List D}(iz:t.rowT=true∨t.one=true)(h:mV cap σ t.flat cs ds){j:Nat}{u:Value}(hj:(rowOf t.rowT cs).cells[j]?=some u):cs[j]?=some u:=by
 obtain⟨h1,h2,h3⟩:=h;cases t with
 |agg ts=>simpa [rowOf,Ty.rowT,Value.cells] using hj
 |trm=>simp[Ty.rowT,Ty.one] at iz
 |_=>
  have h4:=h3 0 _ rfl;have h5:=(h4.1.oneCell h4.2).1;simp only[rowOf,Ty.rowT,yJ,if_false] at hj;rw[h5] at hj;cases j with
  |zero=>
   simp only[Hc,NW,bx] at hj
   match cs,h1 with
   |[c],_=>simpa using hj
  |succ j=>simp at hj
section
variable {H:Type} {enc:TypeId×Value→H} {P:Program} {w:World} {base:Nat} {held:Bool} {cap:Nat→Option CSig}
theorem aiW {k:IntKind}{n:Int}(h:(Lit.int k n).wf=true):k.min≤n∧n≤k.max:=by
 simpa [Lit.wf] using h
theorem ahl {n m:Nat}(ih:∀(t:TypeId) (cs:List Value) (x:DataW H×List MemPlace) (ty:Ty),DataW.trod enc P w base (fun _=>true) held n t cs=some x→gr P m t=some ty→∃ds,mV cap (nq w) ty.flat cs ds):
 ∀(fs:List Field) (off:Nat) (cs:List Value) (ts:List Ty),BX P (gr P m) fs off=some ts→cs.length=off+ts.length→
  (∀f,f∈fs→∃x,DataW.trod enc P w base (fun _=>true) held n f.type ((cs.drop f.offset).take (P.cellsOf f.type))=some x)→∃ds,mV cap (nq w) ts (cs.drop off) ds
 |[],off,cs,ts,h,hl,_=>by
  simp only[BX,bx] at h;subst h;have:cs.drop off=[]:=by simp at hl ⊢;omega
  rw[this];exact⟨[],rfl,rfl,fun i u hu=>by simp at hu⟩
 |f::fs,off,cs,ts,h,hl,hx=>by
  simp only[BX,aG] at h;obtain⟨ft,hft,h⟩:=h;cases hb:(Nat.beq f.offset off&&Nat.beq (P.cellsOf f.type) ft.flat.length)<;>simp only[hb,cond_true,cond_false] at h
  ·cases h
  simp only[aR] at h;obtain⟨us,Ez,rfl⟩:=h;simp only[az] at hb;have e1:=dF hb.1;have e2:=dF hb.2;obtain⟨x,nm⟩:=hx f (gd ..);rw[e1,e2] at nm;obtain⟨Dn,oq⟩:=ih _ _ _ _ nm hft;simp only[l6] at hl;obtain⟨ds2,sU⟩:=ahl ih fs (off+ft.flat.length) cs us Ez (by omega) fun g hg=>hx g (fL _ hg);refine⟨Dn++ds2,?_⟩;have:=oq.append sU;rw[←List.drop_drop,N4] at this;exact this
theorem azY:∀(n m:Nat) (t:TypeId) (cs:List Value) (x:DataW H×List MemPlace) (ty:Ty),DataW.trod enc P w base (fun _=>true) held n t cs=some x→gr P m t=some ty→∃ds,mV cap (nq w) ty.flat cs ds:=by
 intro n
 induction n with
 |zero=>intro m t cs x ty h;simp[DataW.trod] at h
 |succ n ih=>
  intro m t cs x ty h bt;cases m with
  |zero=>simp[gr] at bt
  |succ m=>
   simp only[gr] at bt;split at bt
   ·rename_i hu;cases bt;obtain⟨b,rfl,_⟩:=DataW.trod_bool hu h;exact⟨_,.one (.bool b) rfl⟩
   ·rename_i k hu;cases bt;obtain⟨z,rfl,_,hw⟩:=DataW.trod_int hu h;exact⟨_,.one (.int k z (aiW hw).1 (aiW hw).2) rfl⟩
   ·rename_i hu;cases bt;obtain⟨s,rfl,_,hs⟩:=DataW.trod_string hu h;exact⟨_,.one (.str s hs) rfl⟩
   ·rename_i e hu;have xo:∃(m':Nat) (te vH:Ty),gr P m' e=some te∧P.cellsOf e=te.flat.length∧1≤te.flat.length∧ty=.slice vH∧vH.unf=te:=by
     cases ht:s9 P e<;>simp only[ht,cond_true,cond_false] at bt
     ·simp only[aG] at bt;obtain⟨te,xo,bt⟩:=bt;cases hb:(Nat.beq (P.cellsOf e) te.flat.length&&Nat.ble 1 te.flat.length)<;>simp only[hb,cond_true,cond_false] at bt
      ·cases bt
      cases bt;simp only[az] at hb;exact⟨m,te,te,xo,dF hb.1,l7 hb.2,rfl,Ty.unf_ro (US xo)⟩
     ·cases bt;obtain⟨k1,k2⟩:=aqZ ht 0;exact⟨2,.trmA,.trm,k1,k2,by decide,rfl,rfl⟩
    obtain⟨m',te,vH,xo,e1,e2,rfl,nl⟩:=xo;have iz:=US xo;rcases DataW.trod_slice hu h with⟨rfl,_⟩|⟨a,len,cp,elems,rest,n',iY,rfl,_,hba,hl,hm,hlen,jo,uR,_⟩
    ·exact⟨_,.one (.nil vH) rfl⟩
    ·cases iY;obtain⟨hrl,uN⟩:=uR rfl
     have pK:∀i,i<cp→∃ci y,w.cells? base (a.add (i*P.cellsOf e)) (P.cellsOf e)=some ci∧DataW.trod enc P w base (fun _=>true) held n e ci=some y:=by
      intro i hi
      have eu:∃y,(w.cells? base (a.add (i*P.cellsOf e)) (P.cellsOf e)).bind (DataW.trod enc P w base (fun _=>true) held n e)=some y:=by
           by_cases gV:i<len
           ·rw[jo i gV];exact⟨_,cl (by omega)⟩
           ·have:=uN (i-len) (by omega);rw[show len+(i-len)=i by omega] at this;rw[this];exact⟨_,cl (by omega)⟩
      obtain⟨y,hy⟩:=eu;rw[aG] at hy;obtain⟨ci,h1,h2⟩:=hy;exact⟨ci,y,h1,h2⟩
     by_cases DV:cp=0
     ·subst DV;have:len=0:=by omega
      subst this;exact⟨_,.one (.emp vH a) rfl⟩
     ·have ab6:a.spot=none:=by
           obtain⟨ci,y,h1,_⟩:=pK 0 (by omega);obtain⟨_,_,h3⟩:=World.cells?_some h1;have:=h3 0 (by omega);simp only[Nat.zero_mul,Addr.add,if_true] at this;unfold World.cell? at this;cases hs:a.spot with
           |none=>rfl
           |some s=>
            exfalso;have hl:ci.length=P.cellsOf e:=(World.cells?_some h1).2.1;split at this
            ·rw[hs] at this;simp at this;subst this;simp at hl;omega
            ·rw[eq_comm,List.getElem?_eq_none_iff] at this;omega
      obtain⟨k,o,s⟩:=a;simp only at ab6;subst ab6;have bn:∀i,∃p:List Value×List D,i<len→w.cells? base ((⟨k,o,none⟩:Addr).add (i*P.cellsOf e)) (P.cellsOf e)=some p.1∧mV cap (nq w) te.flat p.1 p.2:=by
           intro i;by_cases hi:i<len
           ·obtain⟨ci,y,h1,h2⟩:=pK i (by omega);obtain⟨ds,hr⟩:=ih m' _ _ _ _ h2 xo;exact⟨(ci,ds),fun _=>⟨h1,hr⟩⟩
           ·exact⟨([],[]),fun h=>absurd h hi⟩
      obtain⟨f,hf⟩:=Classical.axiomOfChoice bn;refine⟨_,.one (.slice vH k o len cp ((List.range len).map fun i=>ZR te.rowT (f i).2) (fun i=>rowOf te.rowT (f i).1) (by simp) hl hm (fun i x hx=>?_) (fun i j u hi hj=>?_)) rfl⟩
      ·rw[dG,aR] at hx;obtain⟨i',eN,rfl⟩:=hx;have ar:i<len:=by have:=(jh.1 eN).1;simpa using this
       rw[qz ar] at eN;cases eN;rw[nl];exact Rep.ofRow iz (hf i ar).2
      ·obtain⟨h1,h2⟩:=hf i hi;have jV:=avY iz h2 hj;obtain⟨_,h4,h5⟩:=World.cells?_some h1;have jW:j<P.cellsOf e:=by rw[←h4];exact(jh.1 jV).1
       have:=h5 j jW;rw[jV] at this;show w.cell? ⟨k,o+i*vH.size+j,none⟩=some u;rw[←vH.unf_size,nl,←amv,←e1,←this]
       congr 1
       simp only[Addr.add];split<;>split<;>simp_all
   ·rename_i fs hu;simp only[aG] at bt;obtain⟨ts,KJ,bt⟩:=bt;cases hb:Nat.beq (P.cellsOf t) ts.length<;>simp only[hb,cond_true,cond_false] at bt
    ·cases bt
    cases bt;obtain⟨xs,n',iY,_,hl,xw,hf⟩:=DataW.trod_struct hu h;cases iY
    have:=ahl (ih m) fs.toList 0 cs ts KJ (by rw[hl,dF hb];omega) (fun f hm=>by
     obtain⟨i,hi⟩:=List.getElem?_of_mem hm;have eN:fs[i]?=some f:=by simpa using hi
     have h1:=hf i f eN;have ar:i<fs.size:=(gO.1 eN).1;exact⟨_,h1.trans (cl (by omega))⟩)
    show ∃ds,mV cap (nq w) ts cs ds;simpa using this
   ·cases bt
theorem C7 {base:Nat}{t:TypeId}{v:Value}(h:Cell.okWide P w .any base t v):v.cells=#[v]:=by
 cases v<;>first|rfl|(exfalso;simp only[Cell.okWide,Cell.ok] at h;revert h;cases P.underlying t with|none=>simp|some T=>cases T<;>simp)
theorem ajL {base base':Nat}{m:Nat}{t:TypeId}{v:Value}{d:DataW H}{ps:List MemPlace}{ty:Ty}(aB:Value.okWide P w .any base' t v)(h:DataW.Trod enc P w base (fun _=>true) held t v d ps)(bt:gr P m t=some ty):∃d,Rep cap (nq w) ty v d:=by
 obtain⟨fuel,h⟩:=h;obtain⟨ds,hr⟩:=azY (cap:=cap) fuel m t _ _ _ h bt;have cK:=Rep.ofRow (US bt) hr;cases m with
 |zero=>simp[gr] at bt
 |succ m=>
  suffices hs:rowOf ty.rowT v.cells.toList=v by rw[hs] at cK;exact⟨_,cK⟩
  simp only[gr] at bt;unfold Value.okWide at aB;split at bt
  ·rename_i hu;cases bt;rw[hu] at aB;simp only at aB;rw[C7 aB];rfl
  ·rename_i hu;cases bt;rw[hu] at aB;simp only at aB;rw[C7 aB];rfl
  ·rename_i hu;cases bt;rw[hu] at aB;simp only at aB;rw[C7 aB];rfl
  ·rename_i e hu;cases ht:s9 P e<;>simp only[ht,cond_true,cond_false] at bt
   ·simp only[aG] at bt;obtain⟨te,_,bt⟩:=bt;cases hb:(Nat.beq (P.cellsOf e) te.flat.length&&Nat.ble 1 te.flat.length)<;>simp only[hb,cond_true,cond_false] at bt
    ·cases bt
    cases bt;rw[hu] at aB;simp only at aB;rw[C7 aB];rfl
   ·cases bt;rw[hu] at aB;simp only at aB;rw[C7 aB];rfl
  ·rename_i fs hu;simp only[aG] at bt;obtain⟨ts,_,bt⟩:=bt;cases hb:Nat.beq (P.cellsOf t) ts.length<;>simp only[hb,cond_true,cond_false] at bt
   ·cases bt
   cases bt;rw[hu] at aB;obtain⟨cs,rfl,_⟩:=aB;simp[rowOf,Ty.rowT,Value.cells]
  ·cases bt
def GD (P:Program)(m:Nat):List TypeId→Option (List Ty)
 |[]=>some []
 |t::ts=>(gr P m t).bind fun x=>(GD P m ts).map (x::·)
theorem Zh {base base' m:Nat}:∀(ts:List TypeId) (vs:List Value) (ds:List (DataW H)) (ps:List MemPlace) (nP:List Ty),DataW.TrodAll enc P w base (fun _=>true) held ts vs ds ps→GD P m ts=some nP→
 (∀(j:Nat) t v,ts[j]?=some t→vs[j]?=some v→Value.okWide P w .any base' t v)→
 ∃es:List D,vs.length=nP.length∧es.length=nP.length∧∀(i:Nat) (t:Ty),nP[i]?=some t→Rep cap (nq w) t (vs.getD i undef) (es.getD i .none)
 |[],vs,ds,ps,nP,h,bt,_=>by
  simp only[GD,bx] at bt;subst bt;cases vs with
  |nil=>exact⟨[],rfl,rfl,fun i t h=>by simp at h⟩
  |cons=>cases ds<;>exact h.elim
 |t::ts,vs,ds,ps,nP,h,bt,aB=>by
  simp only[GD,aG,aR] at bt;obtain⟨ty,aqy,az3,aqz,rfl⟩:=bt;cases vs with
  |nil=>cases ds<;>exact h.elim
  |cons v vs=>
   cases ds with
   |nil=>exact h.elim
   |cons d ds=>
    obtain⟨p,q,h1,h2,_⟩:=h;obtain⟨e,he⟩:=ajL (cap:=cap) (aB 0 t v rfl rfl) h1 aqy;obtain⟨es,k1,k2,k3⟩:=Zh ts vs ds q az3 h2 aqz (fun j t' v' hj hv=>aB (j+1) t' v' hj hv);refine⟨e::es,by simp[k1],by simp[k2],fun i u hu=>?_⟩;cases i with
    |zero=>simp at hu;subst hu;exact he
    |succ i=>simpa using k3 i u (by simpa using hu)
end
mutual
inductive DTy:Ty→D→Prop where
 |int (k:IntKind) (n:Int) (h1:k.min≤n) (h2:n≤k.max):DTy (.int k) (.v (.int k n))
 |bool (b:Bool):DTy .bool (.v (.bool b))
 |str (s:ByteArray) (h:s.size≤maxLen):DTy .str (.v (.string s))
 |slice (e:Ty) (xs:List D) (hm:xs.length≤maxLen) (h:∀x,x∈xs→DTy e.unf x):DTy (.slice e) (.list xs)
 |agg (ts:List Ty) (ds:List D) (h:DTys ts ds):DTy (.agg ts) (.agg ds)
 |other (t:Ty) (d:D) (h:match t with|.int _|.bool|.str|.slice _|.agg _=>False|_=>True):DTy t d
inductive DTys:List Ty→List D→Prop where
 |nil:DTys [] []
 |cons {t:Ty} {d:D} {ts:List Ty} {ds:List D} (h:DTy t d) (hs:DTys ts ds):DTys (t::ts) (d::ds)
end
theorem DTys.of_get:∀{ts:List Ty} {ds:List D},ds.length=ts.length→(∀(i:Nat) (t:Ty),ts[i]?=some t→DTy t (ds.getD i .none))→DTys ts ds
 |[],[],_,_=>.nil
 |t::ts,d::ds,hl,h=>.cons (h 0 t rfl) (DTys.of_get (by simpa using hl) fun i u hu=>by simpa using h (i+1) u (by simpa using hu))
 |[],_::_,hl,_=>by simp at hl
 |_::_,[],hl,_=>by simp at hl
theorem Rep.dty {cap:Nat→Option CSig}{σ:Im}{t:Ty}{v:Value}{d:D}(h:Rep cap σ t v d):DTy t d:=by
 induction h with
 |int k n h1 h2=>exact .int k n h1 h2
 |bool b=>exact .bool b
 |str s h=>exact .str s h
 |agg ts vs ds h1 h2 _ ho ih=>exact .agg ts ds (.of_get h2 ih)
 |nil e=>exact .slice e [] (by decide) (fun x hx=>by cases hx)
 |emp e a=>exact .slice e [] (by decide) (fun x hx=>by cases hx)
 |slice e k o n c xs vs hn hc hm _ hv ih=>
  refine .slice e xs (by omega) fun x hx=>?_;obtain⟨i,hi⟩:=List.getElem?_of_mem hx;exact ih i x hi
 |_=>exact .other _ _ trivial
theorem aq8 {H:Type}{enc:TypeId×Value→H}{C:Ctx}{f:Nat}{fn:Func}{sg:Sig}{spec:ChangeSpec}{tb:TypeId}{apart fresh handsOn again:Bool}(hl:laidOutB C.P=true)
 (gn:GD C.P 12 fn.params.toList=some sg.args) (ap6:fn.params.toList.all (fun t=>C.P.readableRec t&&decide (t<C.P.types.size))=true) (Q9:spec.vars=[])
 (aql:∀ds:List (DataW H),ds.length=fn.params.size→(spec.fn H ds).results=[.lit (.bool true)]∧(spec.fn H ds).args=ds∧(spec.fn H ds).vars=[])
 (nk:fn.resultTypes=#[tb]) (hub:C.P.underlying tb=some .bool) (sS:sg.mode=.dat) (uO:sg.res=.bool)
 (Qy:∀ds,DTys sg.args ds→l0 C f sg ds (.v (.bool true)))
 (W:World) (abp:CtxOK C (nq W)) (base:Nat) (args:Array Value) (ds gs:List (DataW H)) (before:List MemPlace)
 (cS:∀(j:Nat) t v,fn.params[j]?=some t→args[j]?=some v→Value.okWide C.P W .any base t v)
 (hW:DataW.Whole enc C.P fn.params.toList spec.vars apart W args.toList ds gs before):
 Calls C.P f args W fun e W'=>∃v,e=.returned v∧spec.post enc C.P fn apart fresh handsOn again W args v W':=by
 have J5:=hW;have ar:∀p∈before,p.block<W.heap.size:=fun p hp=>J5.lt p hp;obtain⟨p,q,hA,hV,rfl,Qp,bX⟩:=hW;rw[Q9] at hV;obtain⟨rfl,rfl⟩:=trodVars_none hV;obtain⟨es,k1,k2,k3⟩:=Zh (cap:=C.cap) (base':=base) fn.params.toList args.toList ds p sg.args hA gn (fun j t v hj hv=>cS j t v (by simpa using hj) (by simpa using hv));have bt:DTys sg.args es:=.of_get k2 fun i t ht=>(k3 i t ht).dty
 have hlen:∀(ts:List TypeId) (vs:List Value) (ds:List (DataW H)) (ps:List MemPlace),DataW.TrodAll enc C.P W 0 (fun _=>true) true ts vs ds ps→ds.length=ts.length:=by
  intro ts
  induction ts with
  |nil=>intro vs ds ps h;cases vs<;>cases ds<;>first|rfl|exact h.elim
  |cons t ts ih=>
   intro vs ds ps h;cases vs with
   |nil=>cases ds<;>exact h.elim
   |cons v vs=>cases ds with
    |nil=>exact h.elim
    |cons d ds=>obtain⟨p,q,_,h2,_⟩:=h;simp[ih vs ds q h2]
 have Qh:ds.length=fn.params.size:=by simpa using hlen _ _ _ _ hA
 obtain⟨s1,s2,s3⟩:=aql (ds++[]) (by simpa using Qh);refine(Qy es bt (nq W) W args (aqU W) abp ⟨k1,k2,k3⟩).mono fun e W' hh=>?_;obtain⟨v,σ',rfl,_,_,hb,_,_,hr⟩:=hh;refine⟨v,rfl,?_⟩;simp only[se,sS,uO] at hr;obtain⟨b,rfl,wZ⟩:=hr.bool_inv;cases wZ
 have stays:∀(sp:Nat→Bool) (ts:List TypeId) (vs:List Value) (ds:List (DataW H)) (ps:List MemPlace),ts.all (fun t=>C.P.readableRec t&&decide (t<C.P.types.size))=true→(∀x∈ps,x.block<W.heap.size)→(∀x∈ps,sp x.block=true)→
  DataW.TrodAll enc C.P W 0 (fun _=>true) true ts vs ds ps→DataW.TrodAll enc C.P W' 0 sp true ts vs ds ps:=by
  intro sp ts
  induction ts with
  |nil=>intro vs ds ps _ _ _ h;cases vs<;>cases ds<;>first|exact h|exact h.elim
  |cons t ts ih=>
   intro vs ds ps ha A0 uR h;cases vs with
   |nil=>cases ds<;>exact h.elim
   |cons v vs=>cases ds with
    |nil=>exact h.elim
    |cons d ds=>
     obtain⟨p,q,h1,h2,rfl⟩:=h;simp only[uc,az,decide_eq_true_eq] at ha
     exact⟨p,q,WideElems.Trod_stays hl ha.1.1 ha.1.2 h1 (fun x hx=>hb.same (A0 x (kc _ hx))) (fun x hx=>uR x (kc _ hx)),
      ih vs ds q (by simpa using ha.2) (fun x hx=>A0 x (kK _ hx)) (fun x hx=>uR x (kK _ hx)) h2,rfl⟩
 have abE:∀x∈p,x.block<W.heap.size:=fun x hx=>ar x (kc _ hx);have lE:=fun sp (h:∀x∈p,sp x.block=true)=>stays sp _ _ _ _ ap6 abE h hA;have uN:∀(b:Nat) (sp:Nat→Bool) (hd:Bool),DataW.TrodAll enc C.P W' b sp hd fn.resultTypes.toList ((Value.bool true).resultList fn.resultTypes.size) [.lit (.bool true)] []:=by
  intro b sp hd;rw[nk];exact trodAll_mk1 (shut_bool hub true)
 refine⟨ds,[],p++[],[],p,[],J5,?_,?_,?_,World.keptBut_mono (fun x hx=>⟨hx,?_⟩) (hb.frame (·∈p++[])),fun _=>?_⟩
 ·rw[s1];exact uN _ _ _
 ·rw[s2];simpa using lE _ (fun x hx=>by simpa using abE x hx)
 ·rw[s3,Q9];rfl
 ·simpa using hx
 ·refine⟨ok_one nk rfl (okWide_bool_mk hub true),_,[],([]++p)++[],⟨[]++p,[],trodAll_append (lE _ (fun _ _=>rfl)) (uN _ _ _),by rw[Q9];exact rfl,rfl,?_,?_⟩,?_⟩
  ·intro b off hp;have bU:MemPlace.cell b off∈p++[]:=by simpa using hp
   rw[hb.frozen (ar _ bU)];exact Qp b off bU
  ·intro ha;simpa using bX ha
  ·intro x hx _;simpa using hx
end Cx
namespace Cx
open Go Go.RowKit
abbrev cL:=Nat→aY
def ak (T:cL)(f:Nat)(ds:List D)(d:D):Prop:=∃n0,∀n,n0≤n→T n f ds=some d
def yM (T:cL)(l:List PI)(ρ:Env)(Q:Env→Prop):Prop:=∃ρ',Q ρ'∧∃n0,∀n,n0≤n→PI.runs (T n) l ρ=some ρ'
def aL (T:cL)(c:PC)(ρ:Env)(Q:Out→Prop):Prop:=∃x,Q x∧∃n0,∀n,n0≤n→c.ev (T n) n ρ=some x
theorem aL.mono {T:cL}{c:PC}{ρ:Env}{Q Q':Out→Prop}(h:aL T c ρ Q)(hq:∀x,Q x→Q' x):aL T c ρ Q':=by
 obtain⟨x,hx,n0,hn⟩:=h;exact⟨x,hq x hx,n0,hn⟩
theorem yM.nil {T:cL}{ρ:Env}{Q:Env→Prop}(h:Q ρ):yM T [] ρ Q:=⟨ρ,h,0,fun _ _=>rfl⟩
theorem yM.cons {T:cL}{p:PI}{l:List PI}{ρ ρ1:Env}{Q:Env→Prop}{n0:Nat}(h:∀n,n0≤n→p.run (T n) ρ=some ρ1)(k:yM T l ρ1 Q):yM T (p::l) ρ Q:=by
 obtain⟨ρ',hQ,n1,h1⟩:=k;exact⟨ρ',hQ,max n0 n1,fun n hn=>by simp[PI.runs,h n (by omega),h1 n (by omega)]⟩
def hH (T:cL):List PI→Env→(Env→Prop)→Prop
 |[],ρ,Q=>Q ρ
 |.setR t e::l,ρ,Q=>hH T l (ρ.setR t (e.ev ρ)) Q
 |.setO t e::l,ρ,Q=>hH T l (ρ.setO t (e.ev ρ)) Q
 |.chk e::l,ρ,Q=>(e.ev ρ).b=true∧hH T l ρ Q
 |.call gs dst f args::l,ρ,Q=>if holds gs ρ=true then ∃d,ak T f (PE.evs ρ args) d∧hH T l (ρ.setR dst d) Q else hH T l ρ Q
 |.callc gs dst e args::l,ρ,Q=>if holds gs ρ=true then ∃f caps d,e.ev ρ=.clo f caps∧ak T f (PE.evs ρ args++caps) d∧hH T l (ρ.setR dst d) Q else hH T l ρ Q
 |.mcall j f args::l,ρ,Q=>∃d,ak T f (PE.evs ρ args) d∧hH T l (ρ.setO j d) Q
theorem tZ {T:cL}:∀{l:List PI} {ρ:Env} {Q:Env→Prop},hH T l ρ Q→yM T l ρ Q
 |[],ρ,Q,h=>.nil h
 |.setR t e::l,ρ,Q,h=>.cons (n0:=0) (fun _ _=>rfl) (tZ h)
 |.setO t e::l,ρ,Q,h=>.cons (n0:=0) (fun _ _=>rfl) (tZ h)
 |.chk e::l,ρ,Q,h=>.cons (n0:=0) (fun n _=>by simp[PI.run,h.1]) (tZ h.2)
 |.call gs dst f args::l,ρ,Q,h=>by
  unfold hH at h;split at h
  ·rename_i hg;obtain⟨d,⟨n0,hn⟩,h⟩:=h;exact .cons (n0:=n0) (fun n hle=>by simp[PI.run,hg,hn n hle]) (tZ h)
  ·rename_i hg;exact .cons (n0:=0) (fun n hle=>by simp[PI.run,hg]) (tZ h)
 |.callc gs dst e args::l,ρ,Q,h=>by
  unfold hH at h;split at h
  ·rename_i hg;obtain⟨f,caps,d,he,⟨n0,hn⟩,h⟩:=h;exact .cons (n0:=n0) (fun n hle=>by simp[PI.run,hg,he,hn n hle]) (tZ h)
  ·rename_i hg;exact .cons (n0:=0) (fun n hle=>by simp[PI.run,hg]) (tZ h)
 |.mcall j f args::l,ρ,Q,h=>by
  obtain⟨d,⟨n0,hn⟩,h⟩:=h;exact .cons (n0:=n0) (fun n hle=>by simp[PI.run,hn n hle]) (tZ h)
def kW (ρ:Env)(lr lo:List Nat)(Q:Out→Prop):Out→Prop
 |.next ρ'=>Q (.next (ρ.join lr lo ρ'))
 |x=>Q x
def me (ρ:Env)(id:Nat)(lr lo:List Nat)(Q:Out→Prop):Out→Prop
 |.next ρ'=>Q (.next (ρ.join lr lo ρ'))
 |.exit cg ρ'=>if cg=id then Q (.next (ρ.join lr lo ρ')) else Q (.exit cg ρ')
 |.ret d=>Q (.ret d)
def g8 (K:Env→Prop)(Q:Out→Prop):Out→Prop
 |.next ρ'=>K ρ'
 |.exit id ρ'=>Q (.exit id ρ')
 |.ret d=>Q (.ret d)
theorem aL.is {T:cL}{l:List PI}{ρ:Env}{Q:Out→Prop}(h:hH T l ρ fun ρ'=>Q (.next ρ')):aL T (.is l) ρ Q:=by
 obtain⟨ρ',hQ,n0,hn⟩:=tZ h;exact⟨.next ρ',hQ,n0,fun n hle=>by simp[PC.ev,hn n hle]⟩
theorem aL.skip {T:cL}{ρ:Env}{Q:Out→Prop}(h:Q (.next ρ)):aL T .skip ρ Q:=⟨_,h,0,fun _ _=>rfl⟩
theorem aL.exit {T:cL}{ρ:Env}{id:Nat}{Q:Out→Prop}(h:Q (.exit id ρ)):aL T (.exit id) ρ Q:=⟨_,h,0,fun _ _=>rfl⟩
theorem aL.ret {T:cL}{ρ:Env}{e:PE}{Q:Out→Prop}(h:Q (.ret (e.ev ρ))):aL T (.ret e) ρ Q:=⟨_,h,0,fun _ _=>rfl⟩
theorem aL.seq {T:cL}{a b:PC}{ρ:Env}{Q:Out→Prop}(h:aL T a ρ (g8 (fun ρ'=>aL T b ρ' Q) Q)):aL T (.seq a b) ρ Q:=by
 obtain⟨x,hx,n0,hn⟩:=h;cases x with
 |next ρ'=>
  obtain⟨y,hy,n1,h1⟩:=hx;exact⟨y,hy,max n0 n1,fun n hle=>by simp[PC.ev,hn n (by omega),h1 n (by omega)]⟩
 |exit id ρ'=>exact⟨_,hx,n0,fun n hle=>by simp[PC.ev,hn n hle]⟩
 |ret d=>exact⟨_,hx,n0,fun n hle=>by simp[PC.ev,hn n hle]⟩
theorem aL.ite {T:cL}{c:PE}{lr lo:List Nat}{a b:PC}{ρ:Env}{Q:Out→Prop}(h:if(c.ev ρ).b=true then aL T a ρ (kW ρ lr lo Q) else aL T b ρ (kW ρ lr lo Q)):aL T (.ite c lr lo a b) ρ Q:=by
 split at h
 all_goals
  rename_i hc;obtain⟨x,hx,n0,hn⟩:=h;cases x with
  |next ρ'=>exact⟨_,hx,n0,fun n hle=>by simp[PC.ev,hc,hn n hle]⟩
  |exit id ρ'=>exact⟨_,hx,n0,fun n hle=>by simp[PC.ev,hc,hn n hle]⟩
  |ret d=>exact⟨_,hx,n0,fun n hle=>by simp[PC.ev,hc,hn n hle]⟩
theorem aL.block {T:cL}{id:Nat}{lr lo:List Nat}{a:PC}{ρ:Env}{Q:Out→Prop}(h:aL T a ρ (me ρ id lr lo Q)):aL T (.block id lr lo a) ρ Q:=by
 obtain⟨x,hx,n0,hn⟩:=h;cases x with
 |next ρ'=>exact⟨_,hx,n0,fun n hle=>by simp[PC.ev,hn n hle]⟩
 |exit cg ρ'=>
  simp only[me] at hx;split at hx
  ·rename_i e;subst e;exact⟨_,hx,n0,fun n hle=>by simp[PC.ev,hn n hle]⟩
  ·rename_i e;exact⟨_,hx,n0,fun n hle=>by simp[PC.ev,hn n hle,gA e]⟩
 |ret d=>exact⟨_,hx,n0,fun n hle=>by simp[PC.ev,hn n hle]⟩
theorem aL.loop {T:cL}{lr lo:List Nat}{a:PC}{ρ:Env}{Q:Out→Prop}{α:Type}(inv:α→List D→List D→Prop)(vd:α→Nat)(s0:α)(h0:inv s0 (lr.map ρ.r) (lo.map ρ.o))
 (step:∀s vr vo,inv s vr vo→aL T a (ρ.put lr vr lo vo) (g8 (fun ρ'=>∃s',vd s'<vd s∧inv s' (lr.map ρ'.r) (lo.map ρ'.o)) Q)):aL T (.loop lr lo a) ρ Q:=by
 have key:∀(m:Nat) (s:α) (vr vo:List D),vd s≤m→inv s vr vo→∃x,Q x∧∃n0,∀n k,n0≤n→n0≤k→iL (a.ev (T n) n) ρ lr lo k vr vo=some x:=by
  intro m
  induction m with
  |zero=>
   intro s vr vo hm hi;obtain⟨x,hx,n0,hn⟩:=step s vr vo hi;cases x with
   |next ρ'=>obtain⟨s',ar,_⟩:=hx;omega
   |exit id ρ'=>
    refine⟨_,hx,n0+1,fun n k hle hk=>?_⟩;obtain⟨k',rfl⟩:∃k',k=k'+1:=⟨k-1,by omega⟩
    simp[iL,hn n (by omega)]
   |ret d=>
    refine⟨_,hx,n0+1,fun n k hle hk=>?_⟩;obtain⟨k',rfl⟩:∃k',k=k'+1:=⟨k-1,by omega⟩
    simp[iL,hn n (by omega)]
  |succ m ih=>
   intro s vr vo hm hi;obtain⟨x,hx,n0,hn⟩:=step s vr vo hi;cases x with
   |next ρ'=>
    obtain⟨s',ar,eN⟩:=hx;obtain⟨y,hy,n1,h1⟩:=ih s' _ _ (by omega) eN;refine⟨y,hy,max n0 n1+1,fun n k hle hk=>?_⟩;obtain⟨k',rfl⟩:∃k',k=k'+1:=⟨k-1,by omega⟩
    simp[iL,hn n (by omega),h1 n k' (by omega) (by omega)]
   |exit id ρ'=>
    refine⟨_,hx,n0+1,fun n k hle hk=>?_⟩;obtain⟨k',rfl⟩:∃k',k=k'+1:=⟨k-1,by omega⟩
    simp[iL,hn n (by omega)]
   |ret d=>
    refine⟨_,hx,n0+1,fun n k hle hk=>?_⟩;obtain⟨k',rfl⟩:∃k',k=k'+1:=⟨k-1,by omega⟩
    simp[iL,hn n (by omega)]
 obtain⟨x,hx,n0,hn⟩:=key (vd s0) s0 _ _ (bK _) h0;exact⟨x,hx,n0,fun n hle=>by simp only[PC.ev];exact hn n n hle hle⟩
def uu (ρ:Env)(lo:List Nat)(rt:Option PE)(K:List D→Prop)(Q:Out→Prop):Out→Prop
 |.next ρ'=>K (lo.map ρ'.o)
 |.exit id ρ'=>if id=cT then ∃e,rt=some e∧Q (.ret (e.ev (ρ.put [] [] lo (lo.map ρ'.o)))) else Q (.exit id (ρ.put [] [] lo (lo.map ρ'.o)))
 |.ret _=>False
theorem aL.each {T:cL}{e:PE}{ps lo:List Nat}{rt:Option PE}{a:PC}{ρ:Env}{Q:Out→Prop}(xs:List D)(he:(e.ev ρ).l=xs)(inv:Nat→List D→Prop)(h0:inv 0 (lo.map ρ.o))
 (step:∀k x vo,xs[k]?=some x→inv k vo→aL T a (ρ.put ps (partsOf ps x) lo vo) (uu ρ lo rt (inv (k+1)) Q)) (done:∀vo,inv xs.length vo→Q (.next (ρ.put [] [] lo vo))):aL T (.each e ps lo rt a) ρ Q:=by
 have key:∀(r k:Nat) (vo:List D),k+r=xs.length→inv k vo→∃x,Q x∧∃n0,∀n,n0≤n→iV (a.ev (T n) n) ρ ps lo rt (xs.drop k) vo=some x:=by
  intro r
  induction r with
  |zero=>
   intro k vo hk hi;have:xs.drop k=[]:=by rw[YI];omega
   obtain rfl:k=xs.length:=by omega
   exact⟨_,done vo hi,0,fun n _=>by rw[this];rfl⟩
  |succ r ih=>
   intro k vo hk hi;have ar:k<xs.length:=by omega
   rw[NR ar];obtain⟨y,hy,n0,hn⟩:=step k xs[k] vo (cl ar) hi;cases y with
   |next ρ'=>
    obtain⟨z,hz,n1,h1⟩:=ih (k+1) _ (by omega) hy;exact⟨z,hz,max n0 n1,fun n hle=>by simp only[iV,hn n (by omega)];exact h1 n (by omega)⟩
   |exit id ρ'=>
    simp only[uu] at hy;split at hy
    ·rename_i cM;obtain⟨e,h1,h2⟩:=hy;exact⟨_,h2,n0,fun n hle=>by subst cM;simp[iV,hn n hle,h1]⟩
    ·rename_i cM;exact⟨_,hy,n0,fun n hle=>by simp[iV,hn n hle,gA cM]⟩
   |ret d=>exact hy.elim
 obtain⟨x,hx,n0,hn⟩:=key xs.length 0 _ (by omega) h0;exact⟨x,hx,n0,fun n hle=>by simp only[PC.ev,he];exact hn n hle⟩
theorem afT {α:Type}:∀(l:List α),∃L:List (List α),∀ys,ys∈L↔ys.Perm l
 |[]=>⟨[[]],fun ys=>by simp⟩
 |x::l=>by
  obtain⟨L,hL⟩:=afT l;refine⟨L.flatMap fun ys=>(List.range (ys.length+1)).map fun i=>ys.take i++x::ys.drop i,fun zs=>?_⟩;simp only[Hd,dH,gf];constructor
  ·rintro⟨ys,hy,i,_,rfl⟩;have h1:=(hL ys).1 hy;refine(List.perm_middle).trans (.cons x ?_);rw[N4];exact h1
  ·intro h;have hx:x∈zs:=h.symm.subset (gd ..);obtain⟨s,t,rfl⟩:=List.append_of_mem hx;refine⟨s++t,(hL _).2 ?_,s.length,by simp;omega,by simp⟩;exact(List.perm_cons x).1 ((List.perm_middle).symm.trans h)
theorem aL.meach {T:cL}{J:Nat}{ps dk lo:List Nat}{a:PC}{ρ:Env}{Q:Out→Prop}(es:List (D×D))(he:ρ.o J=.tup [.list [],.map es])(inv:List D→List D→Prop)(h0:inv [] (lo.map ρ.o))
 (step:∀done x rest vo,(done++x::rest).Perm (iN (.map es))→inv done vo→aL T a ((ρ.put ps (dk.map x.tget) lo vo).setO J (.tup [.list (done++[x]),.map es])) (fun y=>∃ρ',y=.next ρ'∧inv (done++[x]) (lo.map ρ'.o)))
 (last:∃vo,(∀done,done.Perm (iN (.map es))→∀rP,inv done rP→rP=vo)∧Q (.next (ρ.put [] [] lo vo))):aL T (.meach J ps dk lo a) ρ Q:=by
 obtain⟨vo,hl,hQ⟩:=last;have key:∀(xs done:List D) (vs:List D),(done++xs).Perm (iN (.map es))→inv done vs→∃n0,∀n,n0≤n→oD (a.ev (T n) n) ρ J (.map es) ps dk lo xs done vs=some vo:=by
  intro xs
  induction xs with
  |nil=>intro done vs hp hi;exact⟨0,fun n _=>by rw[hl done (by simpa using hp) vs hi];rfl⟩
  |cons x xs ih=>
   intro done vs hp hi;obtain⟨y,⟨ρ',rfl,eN⟩,n0,hn⟩:=step done x xs vs hp hi;obtain⟨n1,h1⟩:=ih (done++[x]) _ (by simpa using hp) eN;exact⟨max n0 n1,fun n hle=>by simp only[oD,hn n (by omega)];exact h1 n (by omega)⟩
 have pO:∀(L:List (List D)),(∀ys,ys∈L→ys.Perm (iN (.map es)))→∃n0,∀n,n0≤n→∀ys,ys∈L→oD (a.ev (T n) n) ρ J (.map es) ps dk lo ys [] (lo.map ρ.o)=some vo:=by
  intro L
  induction L with
  |nil=>intro _;exact⟨0,fun n _ ys hy=>by cases hy⟩
  |cons y L ih=>
   intro hL;obtain⟨n0,dY⟩:=ih fun ys hy=>hL ys (fL _ hy);obtain⟨n1,h1⟩:=key y [] _ (by simpa using hL y (gd ..)) h0;refine⟨max n0 n1,fun n hle ys hy=>?_⟩;rcases cW.1 hy with e|hy
   ·subst e;exact h1 n (by omega)
   ·exact dY n (by omega) ys hy
 obtain⟨L,hL⟩:=afT (iN (.map es));obtain⟨n0,hn⟩:=pO L fun ys hy=>(hL ys).1 hy;refine⟨_,hQ,n0,fun n hle=>?_⟩;simp only[PC.ev,Bx];refine⟨vo,⟨by rw[he];rfl,fun ys hy=>?_⟩,rfl⟩;rw[he] at hy ⊢;exact hn n hle ys ((hL ys).2 hy)
theorem bounded {Q:Nat→Nat→Prop}:∀(L:Nat),(∀m,m≤L→∃n0,∀n,n0≤n→Q m n)→∃n0,∀n,n0≤n→∀m,m≤L→Q m n
 |0,h=>by
  obtain⟨n0,hn⟩:=h 0 (bK _)
  exact⟨n0,fun n hle m hm=>by obtain rfl:m=0:=by omega
                              exact hn n hle⟩
 |L+1,h=>by
  obtain⟨n0,hn⟩:=bounded L fun m hm=>h m (by omega);obtain⟨n1,h1⟩:=h (L+1) (bK _);refine⟨max n0 n1,fun n hle m hm=>?_⟩;by_cases e:m=L+1
  ·subst e;exact h1 n (by omega)
  ·exact hn n (by omega) m (by omega)
theorem ak.of_pc {tab:Nat→Option PC}{ext:Nat→Option (aY→List D→Option D)}{f:Nat}{pc:PC}{ds:List D}{d:D}(hx:ext f=none)(ht:tab f=some pc)(h:aL (dq tab ext) pc (m3 ds) (fun x=>x=.ret d)):ak (dq tab ext) f ds d:=by
 obtain⟨x,rfl,n0,hn⟩:=h;refine⟨n0+1,fun n hle=>?_⟩;obtain⟨k,rfl⟩:∃k,n=k+1:=⟨n-1,by omega⟩
 simp[dq,hx,ht,hn k (by omega)]
theorem ak.of_ext {tab:Nat→Option PC}{ext:Nat→Option (aY→List D→Option D)}{f:Nat}{g:aY→List D→Option D}{ds:List D}{d:D}(hx:ext f=some g)(h:∃n0,∀n,n0≤n→g (dq tab ext n) ds=some d):ak (dq tab ext) f ds d:=by
 obtain⟨n0,hn⟩:=h;refine⟨n0+1,fun n hle=>?_⟩;obtain⟨k,rfl⟩:∃k,n=k+1:=⟨n-1,by omega⟩
 simp[dq,hx,hn k (by omega)]
def G6 (T:cL)(xs:List D)(m:Nat):cL:=fun n=>yldΦ (T n) xs m
theorem ak.yld {T:cL}{xs:List D}{m f:Nat}{ds:List D}{d:D}(h:ak T f ds d)(hf:f≠mO):ak (G6 T xs m) f ds d:=by
 obtain⟨n0,hn⟩:=h;exact⟨n0,fun n hle=>by simp[G6,yldΦ,hf,hn n hle]⟩
theorem ak.answer {T:cL}{xs l:List D}{m i:Nat}(hl:l=xs.take (i+1))(hi:i<xs.length)(hm:i≤m):ak (G6 T xs m) mO [.list l] (.v (.bool (decide (i<m)))):=by
 subst hl;refine⟨0,fun n _=>?_⟩;have h1:(xs.take (i+1)).length=i+1:=by rw[eH];omega
 simp only[G6,yldΦ,if_true,h1];rw[if_pos ⟨by omega,by omega,trivial⟩];rfl
theorem ak.of_it {tab:Nat→Option PC}{ext:Nat→Option (aY→List D→Option D)}{f:Nat}{pc:PC}{J k:Nat}{spec:List D→List D}{ds:List D}(hx:ext f=some (EK pc J k spec))(hk:∀x,x∈spec ds→∃cH,x=.tup cH∧cH.length=k)
 (h:∀m,m≤(spec ds).length→aL (G6 (dq tab ext) (spec ds) m) pc (Ap J ds) (fun x=>x=.ret (.list ((spec ds).take (m+1))))):ak (dq tab ext) f ds (.list (spec ds)):=by
 refine ak.of_ext hx ?_
 obtain⟨n0,hn⟩:=bounded (Q:=fun m n=>pc.ev (yldΦ (dq tab ext n) (spec ds) m) n (Ap J ds)=some (.ret (.list ((spec ds).take (m+1))))) (spec ds).length (fun m hm=>by
  obtain⟨x,rfl,n0,hn⟩:=h m hm;exact⟨n0,hn⟩)
 refine⟨n0,fun n hle=>?_⟩;unfold EK;rw[if_pos];exact⟨fun m hm=>⟨n,hn n hle m hm⟩,hk⟩
theorem ak.det {T:cL}{f:Nat}{ds:List D}{d d':D}(h:ak T f ds d)(k:ak T f ds d'):d=d':=by
 obtain⟨n0,hn⟩:=h;obtain⟨n1,h1⟩:=k;have:=(hn (max n0 n1) (by omega)).symm.trans (h1 (max n0 n1) (by omega));exact Cu this
theorem ak.fnOK {C:Ctx}{tab:Nat→Option PC}{ext:Nat→Option (aY→List D→Option D)}(h:TabOK C tab ext){f:Nat}{s:Sig}{ds:List D}{d:D}(hs:C.sig f=some s)(hr:ak (dq tab ext) f ds d)(hm:xA s.mode=false:=by rfl):l0 C f s ds d:=by
 obtain⟨n0,hn⟩:=hr;exact((YW h n0).1 f ds d (hn n0 (bK _)) s hs).1 hm
def Le (Φ Ψ:aY):Prop:=∀f ds d,Φ f ds=some d→Ψ f ds=some d
theorem Env.setR_r (ρ:Env)(t u:Nat)(d:D):(ρ.setR t d).r u=if u=t then d else ρ.r u:=by simp only[Env.setR,gN]
theorem Env.setO_o (ρ:Env)(t u:Nat)(d:D):(ρ.setO t d).o u=if u=t then d else ρ.o u:=by simp only[Env.setO,gN]
theorem Env.join_r (ρ ρ':Env)(lr lo:List Nat)(u:Nat):(ρ.join lr lo ρ').r u=if u∈lr then ρ'.r u else ρ.r u:=by simp only[Env.join,Env.put,tB]
theorem Env.join_o (ρ ρ':Env)(lr lo:List Nat)(u:Nat):(ρ.join lr lo ρ').o u=if u∈lo then ρ'.o u else ρ.o u:=by simp only[Env.join,Env.put,tB]
theorem LP (f:Nat→D)(i:Nat)(is:List Nat)(x:D)(xs:List D)(u:Nat):putL f (i::is) (x::xs) u=if u=i then x else putL f is xs u:=by simp only[putL,gN]
theorem LQ (f:Nat→D)(xs:List D)(u:Nat):putL f [] xs u=f u:=by cases xs<;>rfl
theorem apP (g:Nat×Bool)(gs:List (Nat×Bool))(ρ:Env):holds (g::gs) ρ=((ρ.r g.1).b==g.2&&holds gs ρ):=rfl
theorem D.tget_tup (x:List D)(i:Nat):(D.tup x).tget i=x.getD i .none:=rfl
theorem D.c_agg (x:List D)(i:Nat):(D.agg x).c i=x.getD i .none:=rfl
end Cx
namespace Cx
open Go Go.RowKit
structure SE where
 r:List (Nat×PE)
 o:List (Nat×PE)
def SE.getR (s:SE)(t:Nat):PE:=match bS s.r t with|some e=>e|none=>.r t
def SE.getO (s:SE)(t:Nat):PE:=match bS s.o t with|some e=>e|none=>.o t
def SE.setR (s:SE)(t:Nat)(e:PE):SE:=⟨(t,e)::s.r,s.o⟩
def SE.setO (s:SE)(t:Nat)(e:PE):SE:=⟨s.r,(t,e)::s.o⟩
def SE.id:SE:=⟨[],[]⟩
def SE.ev (s:SE)(ρ:Env):Env:=⟨fun t=>(s.getR t).ev ρ,fun t=>(s.getO t).ev ρ⟩
def SE.join (s:SE)(lr lo:List Nat)(s':SE):SE:=⟨lr.map (fun t=>(t,s'.getR t))++s.r,lo.map (fun t=>(t,s'.getO t))++s.o⟩
theorem SE.setR_ev (s:SE)(t:Nat)(e:PE)(ρ:Env):(s.setR t e).ev ρ=(s.ev ρ).setR t (e.ev ρ):=by
 have h:(fun u=>((s.setR t e).getR u).ev ρ)=cE (fun u=>(s.getR u).ev ρ) t (e.ev ρ):=by
  funext u;simp only[SE.getR,SE.setR,bS,gN];by_cases h:t=u
  ·subst h;simp
  ·have h':¬u=t:=fun e=>h e.symm;simp[gA h,h']
 simp only[SE.ev,Env.setR];rw[h];rfl
theorem SE.setO_ev (s:SE)(t:Nat)(e:PE)(ρ:Env):(s.setO t e).ev ρ=(s.ev ρ).setO t (e.ev ρ):=by
 have h:(fun u=>((s.setO t e).getO u).ev ρ)=cE (fun u=>(s.getO u).ev ρ) t (e.ev ρ):=by
  funext u;simp only[SE.getO,SE.setO,bS,gN];by_cases h:t=u
  ·subst h;simp
  ·have h':¬u=t:=fun e=>h e.symm;simp[gA h,h']
 simp only[SE.ev,Env.setO];rw[h];rfl
theorem xF {f:Nat→PE}{l:List (Nat×PE)}{u:Nat}:∀(lr:List Nat),bS (lr.map (fun t=>(t,f t))++l) u=if u∈lr then some (f u) else bS l u
 |[]=>by simp
 |t::lr=>by
  simp only[jN,Cm,bS,xF lr,cW];by_cases h:t=u
  ·subst h;simp
  ·have h':¬u=t:=fun e=>h e.symm;simp[gA h,h']
theorem SE.join_ev (s s':SE)(lr lo:List Nat)(ρ:Env):(s.join lr lo s').ev ρ=(s.ev ρ).join lr lo (s'.ev ρ):=by
 have h1:∀u,((s.join lr lo s').getR u).ev ρ=((s.ev ρ).join lr lo (s'.ev ρ)).r u:=by
  intro u;rw[Env.join_r];have e:bS (s.join lr lo s').r u=if u∈lr then some (s'.getR u) else bS s.r u:=xF lr;unfold SE.getR;rw[e];by_cases h:u∈lr
  ·simp only[h,if_true];rfl
  ·simp only[h,if_false];rfl
 have h2:∀u,((s.join lr lo s').getO u).ev ρ=((s.ev ρ).join lr lo (s'.ev ρ)).o u:=by
  intro u;rw[Env.join_o];have e:bS (s.join lr lo s').o u=if u∈lo then some (s'.getO u) else bS s.o u:=xF lo;unfold SE.getO;rw[e];by_cases h:u∈lo
  ·simp only[h,if_true];rfl
  ·simp only[h,if_false];rfl
 have e1:(fun u=>((s.join lr lo s').getR u).ev ρ)=((s.ev ρ).join lr lo (s'.ev ρ)).r:=funext h1;have e2:(fun u=>((s.join lr lo s').getO u).ev ρ)=((s.ev ρ).join lr lo (s'.ev ρ)).o:=funext h2;show Env.mk _ _=_;rw[e1,e2]
abbrev cn:=List (PE×Bool)
def cn.ok (aj:cn)(ρ:Env):Prop:=∀x,x∈aj→(x.1.ev ρ).b=x.2
def Ho (e:PE):cn→Option Bool
 |[]=>none
 |x::l=>bif PE.beq x.1 e then some x.2 else Ho e l
theorem Zl {e:PE}{ρ:Env}{b:Bool}:∀{aj:cn},aj.ok ρ→Ho e aj=some b→(e.ev ρ).b=b
 |[],_,h=>by cases h
 |x::l,aB,h=>by
  simp only[Ho] at h;cases hb:PE.beq x.1 e<;>simp only[hb,cond_true,cond_false] at h
  ·exact Zl (fun y hy=>aB y (fL _ hy)) h
  ·cases h;rw[←PE.beq_eq _ _ hb];exact aB x (gd ..)
def vN (aj:cn):PE→Option Bool
 |.con (.v (.bool b))=>some b
 |.nt x=>(vN aj x).map (!·)
 |e=>Ho e aj
theorem yD {aj:cn}{ρ:Env}(h:aj.ok ρ):∀{e:PE} {b:Bool},vN aj e=some b→(e.ev ρ).b=b
 |.con (.v (.bool b)),b',he=>by simp only[vN,bx] at he;subst he;rfl
 |.nt x,b',he=>by
  simp only[vN,aR] at he;obtain⟨c,hc,rfl⟩:=he;simp only[PE.ev,D.b_bool,yD h hc]
 |e,b',he=>by
  unfold vN at he;split at he
  ·cases he;rfl
  ·rename_i x;simp only[aR] at he;obtain⟨c,hc,rfl⟩:=he;simp only[PE.ev,D.b_bool,yD h hc]
  ·exact Zl h he
def tz (aj:cn)(c a b:PE):PE:=match vN aj c with|some true=>a|some false=>b|none=>.pick c a b
theorem SV {aj:cn}{ρ:Env}(h:aj.ok ρ)(c a b:PE):(tz aj c a b).ev ρ=(PE.pick c a b).ev ρ:=by
 unfold tz;split
 ·rename_i ht;simp[PE.ev,yD h ht]
 ·rename_i ht;simp[PE.ev,yD h ht]
 ·rfl
def Pr:PE→PE
 |.ref x=>x
 |x=>.deref x
theorem ak9 (x:PE)(ρ:Env):(Pr x).ev ρ=(PE.deref x).ev ρ:=by unfold Pr;split<;>rfl
def Vd:PE→Nat→PE
 |.tup es,i=>es.getD i (.con .none)
 |x,i=>.tget x i
theorem awO (x:PE)(i:Nat)(ρ:Env):(Vd x i).ev ρ=(PE.tget x i).ev ρ:=by
 unfold Vd;split
 ·rename_i es;simp only[PE.ev,D.tget_tup,PE.evs_eq,bh,dG];cases es[i]?<;>rfl
 ·rfl
def E2:PE→Bool
 |.ai ..|.ci ..|.cb ..|.cs ..|.sadd ..|.nt _|.conv ..|.llen _|.bytes _|.slen _|.mlen _|.idx ..|.sidx ..|.sok ..|.slok ..|.lst _|.app ..|.setn ..|.rep ..|.slc ..|.ref _|.has ..|.put ..|.an ..|.imp ..|.tup _|.clo ..=>true
 |.con (.v _)|.con (.list _)|.con (.map _)=>true
 |_=>false
theorem atH {e:PE}(h:E2 e=true)(ρ:Env):(e.ev ρ).cells=[e.ev ρ]:=by
 unfold E2 at h;split at h<;>first|rfl|cases h
def Pj:PE→Nat→PE
 |.mk es,i=>bif es.all E2 then es.getD i (.con .none) else .cell (.mk es) i
 |x,i=>.cell x i
theorem aaa {ρ:Env}:∀{es:List PE},es.all E2=true→PE.evc ρ es=PE.evs ρ es
 |[],_=>rfl
 |e::es,h=>by
  simp only[uc,az] at h;simp only[PE.evc,PE.evs,atH h.1,aaa h.2];rfl
theorem akv (x:PE)(i:Nat)(ρ:Env):(Pj x i).ev ρ=(PE.cell x i).ev ρ:=by
 unfold Pj;split
 ·rename_i es;cases hc:es.all E2
  ·rfl
  ·simp only[cond_true,PE.ev,aaa hc,D.c_agg,PE.evs_eq,bh,dG];cases es[i]?<;>rfl
 ·rfl
def DO (s:SE):List (Nat×Bool)→PE
 |[]=>.con (.v (.bool true))
 |g::gs=>.an (bif g.2 then s.getR g.1 else .nt (s.getR g.1)) (DO s gs)
theorem aas (s:SE)(ρ:Env):∀gs,((DO s gs).ev ρ).b=holds gs (s.ev ρ)
 |[]=>rfl
 |g::gs=>by
  have ih:=aas s ρ gs;rw[apP,←ih];have e:((s.ev ρ).r g.1)=(s.getR g.1).ev ρ:=rfl;rw[e];cases hg:g.2
  ·simp only[DO,hg,cond_false,PE.ev,D.b_bool];cases((s.getR g.1).ev ρ).b<;>rfl
  ·simp only[DO,hg,cond_true,PE.ev,D.b_bool];cases((s.getR g.1).ev ρ).b<;>rfl
mutual
def PE.sub' (aj:cn)(s:SE):PE→PE
 |.r t=>s.getR t
 |.o j=>s.getO j
 |.con d=>.con d
 |.cell e i=>Pj (PE.sub' aj s e) i
 |.sub e a b=>.sub (PE.sub' aj s e) a b
 |.setc e q x=>.setc (PE.sub' aj s e) q (PE.sub' aj s x)
 |.mk es=>.mk (PE.subs' aj s es)
 |.ai op k x y=>.ai op k (PE.sub' aj s x) (PE.sub' aj s y)
 |.ci op x y=>.ci op (PE.sub' aj s x) (PE.sub' aj s y)
 |.cb op x y=>.cb op (PE.sub' aj s x) (PE.sub' aj s y)
 |.cs op x y=>.cs op (PE.sub' aj s x) (PE.sub' aj s y)
 |.sadd x y=>.sadd (PE.sub' aj s x) (PE.sub' aj s y)
 |.nt x=>.nt (PE.sub' aj s x)
 |.conv k x=>.conv k (PE.sub' aj s x)
 |.pick c a b=>tz aj (PE.sub' aj s c) (PE.sub' aj s a) (PE.sub' aj s b)
 |.llen x=>.llen (PE.sub' aj s x)
 |.bytes x=>.bytes (PE.sub' aj s x)
 |.slen x=>.slen (PE.sub' aj s x)
 |.mlen x=>.mlen (PE.sub' aj s x)
 |.nth x y=>.nth (PE.sub' aj s x) (PE.sub' aj s y)
 |.idx x y=>.idx (PE.sub' aj s x) (PE.sub' aj s y)
 |.sidx x y=>.sidx (PE.sub' aj s x) (PE.sub' aj s y)
 |.sok x y=>.sok (PE.sub' aj s x) (PE.sub' aj s y)
 |.setn x y n z=>.setn (PE.sub' aj s x) (PE.sub' aj s y) n (PE.sub' aj s z)
 |.app x y=>.app (PE.sub' aj s x) (PE.sub' aj s y)
 |.lst es=>.lst (PE.subs' aj s es)
 |.rep x y=>.rep (PE.sub' aj s x) (PE.sub' aj s y)
 |.slc x y z=>.slc (PE.sub' aj s x) (PE.sub' aj s y) (PE.sub' aj s z)
 |.slok x y z=>.slok (PE.sub' aj s x) (PE.sub' aj s y) (PE.sub' aj s z)
 |.ref x=>.ref (PE.sub' aj s x)
 |.deref x=>Pr (PE.sub' aj s x)
 |.look x y z=>.look (PE.sub' aj s x) (PE.sub' aj s y) (PE.sub' aj s z)
 |.has x y=>.has (PE.sub' aj s x) (PE.sub' aj s y)
 |.put x y z=>.put (PE.sub' aj s x) (PE.sub' aj s y) (PE.sub' aj s z)
 |.mn x y=>.mn (PE.sub' aj s x) (PE.sub' aj s y)
 |.mx x y=>.mx (PE.sub' aj s x) (PE.sub' aj s y)
 |.tup es=>.tup (PE.subs' aj s es)
 |.tget x i=>Vd (PE.sub' aj s x) i
 |.clo f es=>.clo f (PE.subs' aj s es)
 |.an x y=>.an (PE.sub' aj s x) (PE.sub' aj s y)
 |.imp c x=>.nt (.an (DO s c) (.nt (PE.sub' aj s x)))
def PE.subs' (aj:cn)(s:SE):List PE→List PE
 |[]=>[]
 |e::es=>PE.sub' aj s e::PE.subs' aj s es
end
mutual
theorem PE.sub_ev {aj:cn}{ρ:Env}(h:aj.ok ρ)(s:SE):∀(e:PE),(PE.sub' aj s e).ev ρ=e.ev (s.ev ρ)
 |.r t=>rfl
 |.o j=>rfl
 |.con d=>rfl
 |.cell e i=>by simp only[PE.sub',akv,PE.ev,PE.sub_ev h s e]
 |.sub e a b=>by simp only[PE.sub',PE.ev,PE.sub_ev h s e]
 |.setc e q x=>by simp only[PE.sub',PE.ev,PE.sub_ev h s e,PE.sub_ev h s x]
 |.mk es=>by simp only[PE.sub',PE.ev,PE.subc_ev h s es]
 |.ai op k x y=>by simp only[PE.sub',PE.ev,PE.sub_ev h s x,PE.sub_ev h s y]
 |.ci op x y=>by simp only[PE.sub',PE.ev,PE.sub_ev h s x,PE.sub_ev h s y]
 |.cb op x y=>by simp only[PE.sub',PE.ev,PE.sub_ev h s x,PE.sub_ev h s y]
 |.cs op x y=>by simp only[PE.sub',PE.ev,PE.sub_ev h s x,PE.sub_ev h s y]
 |.sadd x y=>by simp only[PE.sub',PE.ev,PE.sub_ev h s x,PE.sub_ev h s y]
 |.nt x=>by simp only[PE.sub',PE.ev,PE.sub_ev h s x]
 |.conv k x=>by simp only[PE.sub',PE.ev,PE.sub_ev h s x]
 |.pick c a b=>by simp only[PE.sub',SV h,PE.ev,PE.sub_ev h s c,PE.sub_ev h s a,PE.sub_ev h s b]
 |.llen x=>by simp only[PE.sub',PE.ev,PE.sub_ev h s x]
 |.bytes x=>by simp only[PE.sub',PE.ev,PE.sub_ev h s x]
 |.slen x=>by simp only[PE.sub',PE.ev,PE.sub_ev h s x]
 |.mlen x=>by simp only[PE.sub',PE.ev,PE.sub_ev h s x]
 |.nth x y=>by simp only[PE.sub',PE.ev,PE.sub_ev h s x,PE.sub_ev h s y]
 |.idx x y=>by simp only[PE.sub',PE.ev,PE.sub_ev h s x,PE.sub_ev h s y]
 |.sidx x y=>by simp only[PE.sub',PE.ev,PE.sub_ev h s x,PE.sub_ev h s y]
 |.sok x y=>by simp only[PE.sub',PE.ev,PE.sub_ev h s x,PE.sub_ev h s y]
 |.setn x y n z=>by simp only[PE.sub',PE.ev,PE.sub_ev h s x,PE.sub_ev h s y,PE.sub_ev h s z]
 |.app x y=>by simp only[PE.sub',PE.ev,PE.sub_ev h s x,PE.sub_ev h s y]
 |.lst es=>by simp only[PE.sub',PE.ev,PE.subs_ev h s es]
 |.rep x y=>by simp only[PE.sub',PE.ev,PE.sub_ev h s x,PE.sub_ev h s y]
 |.slc x y z=>by simp only[PE.sub',PE.ev,PE.sub_ev h s x,PE.sub_ev h s y,PE.sub_ev h s z]
 |.slok x y z=>by simp only[PE.sub',PE.ev,PE.sub_ev h s x,PE.sub_ev h s y,PE.sub_ev h s z]
 |.ref x=>by simp only[PE.sub',PE.ev,PE.sub_ev h s x]
 |.deref x=>by simp only[PE.sub',ak9,PE.ev,PE.sub_ev h s x]
 |.look x y z=>by simp only[PE.sub',PE.ev,PE.sub_ev h s x,PE.sub_ev h s y,PE.sub_ev h s z]
 |.has x y=>by simp only[PE.sub',PE.ev,PE.sub_ev h s x,PE.sub_ev h s y]
 |.put x y z=>by simp only[PE.sub',PE.ev,PE.sub_ev h s x,PE.sub_ev h s y,PE.sub_ev h s z]
 |.mn x y=>by simp only[PE.sub',PE.ev,PE.sub_ev h s x,PE.sub_ev h s y]
 |.mx x y=>by simp only[PE.sub',PE.ev,PE.sub_ev h s x,PE.sub_ev h s y]
 |.tup es=>by simp only[PE.sub',PE.ev,PE.subs_ev h s es]
 |.tget x i=>by simp only[PE.sub',awO,PE.ev,PE.sub_ev h s x]
 |.clo f es=>by simp only[PE.sub',PE.ev,PE.subs_ev h s es]
 |.an x y=>by simp only[PE.sub',PE.ev,PE.sub_ev h s x,PE.sub_ev h s y]
 |.imp c x=>by
  simp only[PE.sub',PE.ev,D.b_bool,aas,PE.sub_ev h s x];cases holds c (s.ev ρ)<;>cases(x.ev (s.ev ρ)).b<;>rfl
theorem PE.subs_ev {aj:cn}{ρ:Env}(h:aj.ok ρ)(s:SE):∀(es:List PE),PE.evs ρ (PE.subs' aj s es)=PE.evs (s.ev ρ) es
 |[]=>rfl
 |e::es=>by simp only[PE.subs',PE.evs,PE.sub_ev h s e,PE.subs_ev h s es]
theorem PE.subc_ev {aj:cn}{ρ:Env}(h:aj.ok ρ)(s:SE):∀(es:List PE),PE.evc ρ (PE.subs' aj s es)=PE.evc (s.ev ρ) es
 |[]=>rfl
 |e::es=>by simp only[PE.subs',PE.evc,PE.sub_ev h s e,PE.subc_ev h s es]
end
inductive PT where
 |next (s:SE)
 |exit (id:Nat) (s:SE)
 |ret (e:PE)
 |chk (e:PE) (k:PT)
 |ite (c:PE) (a b:PT)
 |call (s:SE) (gs:List (Nat×Bool)) (dst f:Nat) (args:List PE) (k:PT)
 |callc (s:SE) (gs:List (Nat×Bool)) (dst:Nat) (e:PE) (args:List PE) (k:PT)
 |mcall (s:SE) (j f:Nat) (args:List PE) (k:PT)
 |iteS (s:SE) (c:PE) (lr lo:List Nat) (a b k:PT)
 |blockS (s:SE) (id:Nat) (lr lo:List Nat) (a k:PT)
 |brk (s:SE) (c:PC) (k:PT)
def aK (T:cL):PT→Env→(Out→Prop)→Prop
 |.next s,ρ,Q=>Q (.next (s.ev ρ))
 |.exit id s,ρ,Q=>Q (.exit id (s.ev ρ))
 |.ret e,ρ,Q=>Q (.ret (e.ev ρ))
 |.chk e k,ρ,Q=>(e.ev ρ).b=true∧aK T k ρ Q
 |.ite c a b,ρ,Q=>if(c.ev ρ).b=true then aK T a ρ Q else aK T b ρ Q
 |.call s gs dst f args k,ρ,Q=>if holds gs (s.ev ρ)=true then ∃d,ak T f (PE.evs ρ args) d∧aK T k ((s.ev ρ).setR dst d) Q else aK T k (s.ev ρ) Q
 |.callc s gs dst e args k,ρ,Q=>if holds gs (s.ev ρ)=true then ∃f caps d,e.ev ρ=.clo f caps∧ak T f (PE.evs ρ args++caps) d∧aK T k ((s.ev ρ).setR dst d) Q else aK T k (s.ev ρ) Q
 |.mcall s j f args k,ρ,Q=>∃d,ak T f (PE.evs ρ args) d∧aK T k ((s.ev ρ).setO j d) Q
 |.iteS s c lr lo a b k,ρ,Q=>if(c.ev ρ).b=true then aK T a (s.ev ρ) (kW (s.ev ρ) lr lo (g8 (fun ρ'=>aK T k ρ' Q) Q)) else aK T b (s.ev ρ) (kW (s.ev ρ) lr lo (g8 (fun ρ'=>aK T k ρ' Q) Q))
 |.blockS s id lr lo a k,ρ,Q=>aK T a (s.ev ρ) (me (s.ev ρ) id lr lo (g8 (fun ρ'=>aK T k ρ' Q) Q))
 |.brk s c k,ρ,Q=>aL T c (s.ev ρ) (g8 (fun ρ'=>aK T k ρ' Q) Q)
def oE:PI→Bool
 |.setR ..|.setO ..|.chk _=>true
 |_=>false
def dT:PC→Bool
 |.loop ..=>false
 |.each ..=>false
 |.meach ..=>false
 |.seq a b=>dT a&&dT b
 |.ite _ _ _ a b=>dT a&&dT b
 |.block _ _ _ a=>dT a
 |.is l=>l.all oE
 |_=>true
abbrev Kn:=cn→SE→PT
abbrev Kx:=cn→Nat→SE→PT
def nN:List PI→cn→SE→Kn→PT
 |[],aj,s,k=>k aj s
 |.setR t e::l,aj,s,k=>nN l aj (s.setR t (e.sub' aj s)) k
 |.setO t e::l,aj,s,k=>nN l aj (s.setO t (e.sub' aj s)) k
 |.chk e::l,aj,s,k=>
  match vN aj (e.sub' aj s) with
  |some true=>nN l aj s k
  |_=>.chk (e.sub' aj s) (nN l ((e.sub' aj s,true)::aj) s k)
 |.call gs dst f args::l,aj,s,k=>.call s gs dst f (PE.subs' aj s args) (nN l [] .id k)
 |.callc gs dst e args::l,aj,s,k=>.callc s gs dst (e.sub' aj s) (PE.subs' aj s args) (nN l [] .id k)
 |.mcall j f args::l,aj,s,k=>.mcall s j f (PE.subs' aj s args) (nN l [] .id k)
def SE.merge (s:SE)(aj:cn)(lr lo:List Nat)(c:PE)(a b:SE):SE:=⟨lr.map (fun t=>(t,tz aj c (a.getR t) (b.getR t)))++s.r,lo.map (fun t=>(t,tz aj c (a.getO t) (b.getO t)))++s.o⟩
def qe:List PI→cn→SE→Option SE
 |[],_,s=>some s
 |.setR t e::l,aj,s=>qe l aj (s.setR t (e.sub' aj s))
 |.setO t e::l,aj,s=>qe l aj (s.setO t (e.sub' aj s))
 |_::_,_,_=>none
def plain:PC→cn→SE→Option SE
 |.skip,_,s=>some s
 |.is l,aj,s=>qe l aj s
 |.seq a b,aj,s=>(plain a aj s).bind fun s=>plain b aj s
 |.ite c lr lo a b,aj,s=>(plain a aj s).bind fun sa=>(plain b aj s).map fun sb=>s.merge aj lr lo (c.sub' aj s) sa sb
 |_,_,_=>none
def acz:PC→Bool
 |.loop ..=>true
 |_=>false
def sx:PC→cn→SE→Kn→Kx→PT
 |.skip,aj,s,k,_=>k aj s
 |.is l,aj,s,k,_=>nN l aj s k
 |.seq a b,aj,s,k,kx=>sx a aj s (fun aj s=>sx b aj s k kx) kx
 |.ite c lr lo a b,aj,s,k,kx=>
  match vN aj (c.sub' aj s) with
  |some true=>bif dT a then sx a aj s (fun aj s'=>k aj (s.join lr lo s')) kx else .iteS s (c.sub' aj s) lr lo (sx a [] .id (fun _ s=>.next s) (fun _ id s=>.exit id s)) (sx b [] .id (fun _ s=>.next s) (fun _ id s=>.exit id s)) (k [] .id)
  |some false=>bif dT b then sx b aj s (fun aj s'=>k aj (s.join lr lo s')) kx else .iteS s (c.sub' aj s) lr lo (sx a [] .id (fun _ s=>.next s) (fun _ id s=>.exit id s)) (sx b [] .id (fun _ s=>.next s) (fun _ id s=>.exit id s)) (k [] .id)
  |none=>
   match plain a aj s,plain b aj s with
   |some sa,some sb=>k aj (s.merge aj lr lo (c.sub' aj s) sa sb)
   |_,_=>
   bif dT a&&dT b then
    .ite (c.sub' aj s) (sx a ((c.sub' aj s,true)::aj) s (fun aj s'=>k aj (s.join lr lo s')) kx) (sx b ((c.sub' aj s,false)::aj) s (fun aj s'=>k aj (s.join lr lo s')) kx)
   else .iteS s (c.sub' aj s) lr lo (sx a [] .id (fun _ s=>.next s) (fun _ id s=>.exit id s)) (sx b [] .id (fun _ s=>.next s) (fun _ id s=>.exit id s)) (k [] .id)
 |.block id lr lo a,aj,s,k,kx=>
  bif dT a then sx a aj s (fun aj s'=>k aj (s.join lr lo s')) (fun aj cg s'=>bif Nat.beq cg id then k aj (s.join lr lo s') else kx aj cg s')
  else bif acz a then .brk s (.block id lr lo a) (k [] .id)
  else .blockS s id lr lo (sx a [] .id (fun _ s=>.next s) (fun _ id s=>.exit id s)) (k [] .id)
 |.loop lr lo a,_,s,k,_=>.brk s (.loop lr lo a) (k [] .id)
 |.each e ps lo rt a,_,s,k,_=>.brk s (.each e ps lo rt a) (k [] .id)
 |.meach J ps dk lo a,_,s,k,_=>.brk s (.meach J ps dk lo a) (k [] .id)
 |.exit id,aj,s,_,kx=>kx aj id s
 |.ret e,aj,s,_,_=>.ret (e.sub' aj s)
theorem cn.ok_nil (ρ:Env):cn.ok [] ρ:=fun _ h=>nomatch h
theorem cn.ok_cons {aj:cn}{ρ:Env}{e:PE}{b:Bool}(h:aj.ok ρ)(he:(e.ev ρ).b=b):cn.ok ((e,b)::aj) ρ:=fun x hx=>by
 rcases cW.1 hx with e'|hx
 ·rw[e'];exact he
 ·exact h x hx
theorem rG {T:cL}{Q:Out→Prop}{K:Env→Prop}{k:Kn}:∀{l:List PI} {aj:cn} {s:SE} {ρ:Env},aj.ok ρ→aK T (nN l aj s k) ρ Q→
 (∀ρ' aj s,(l.all oE=true→ρ'=ρ)→aj.ok ρ'→aK T (k aj s) ρ' Q→K (s.ev ρ'))→hH T l (s.ev ρ) K
 |[],aj,s,ρ,ha,h,hk=>hk ρ aj s (fun _=>rfl) ha h
 |.setR t e::l,aj,s,ρ,ha,h,hk=>by
  simp only[hH];rw[←PE.sub_ev ha s e,←SE.setR_ev];exact rG ha h fun ρ' aj s hp=>hk ρ' aj s fun hl=>hp (by simpa [oE] using hl)
 |.setO t e::l,aj,s,ρ,ha,h,hk=>by
  simp only[hH];rw[←PE.sub_ev ha s e,←SE.setO_ev];exact rG ha h fun ρ' aj s hp=>hk ρ' aj s fun hl=>hp (by simpa [oE] using hl)
 |.chk e::l,aj,s,ρ,ha,h,hk=>by
  simp only[hH];rw[←PE.sub_ev ha s e];simp only[nN] at h;split at h
  ·rename_i ht;exact⟨yD ha ht,rG ha h fun ρ' aj s hp=>hk ρ' aj s fun hl=>hp (by simpa [oE] using hl)⟩
  ·exact⟨h.1,rG (cn.ok_cons ha h.1) h.2 fun ρ' aj s hp=>hk ρ' aj s fun hl=>hp (by simpa [oE] using hl)⟩
 |.call gs dst f args::l,aj,s,ρ,ha,h,hk=>by
  simp only[hH];simp only[nN,aK,PE.subs_ev ha,PE.sub_ev ha] at h;have bo:∀{ρ0:Env},∀ρ' aj s,(l.all oE=true→ρ'=ρ0)→aj.ok ρ'→aK T (k aj s) ρ' Q→K (s.ev ρ'):=fun ρ' aj s _=>hk ρ' aj s fun hl=>by simp[oE] at hl
  split at h
  ·rename_i hg;rw[if_pos hg];obtain⟨d,hd,h⟩:=h;exact⟨d,hd,rG (s:=.id) (cn.ok_nil _) h bo⟩
  ·rename_i hg;rw[if_neg hg];exact rG (s:=.id) (cn.ok_nil _) h bo
 |.callc gs dst e args::l,aj,s,ρ,ha,h,hk=>by
  simp only[hH];simp only[nN,aK,PE.subs_ev ha,PE.sub_ev ha] at h;have bo:∀{ρ0:Env},∀ρ' aj s,(l.all oE=true→ρ'=ρ0)→aj.ok ρ'→aK T (k aj s) ρ' Q→K (s.ev ρ'):=fun ρ' aj s _=>hk ρ' aj s fun hl=>by simp[oE] at hl
  split at h
  ·rename_i hg;rw[if_pos hg];obtain⟨f,caps,d,he,hd,h⟩:=h;exact⟨f,caps,d,he,hd,rG (s:=.id) (cn.ok_nil _) h bo⟩
  ·rename_i hg;rw[if_neg hg];exact rG (s:=.id) (cn.ok_nil _) h bo
 |.mcall j f args::l,aj,s,ρ,ha,h,hk=>by
  simp only[hH];simp only[nN,aK,PE.subs_ev ha,PE.sub_ev ha] at h;have bo:∀{ρ0:Env},∀ρ' aj s,(l.all oE=true→ρ'=ρ0)→aj.ok ρ'→aK T (k aj s) ρ' Q→K (s.ev ρ'):=fun ρ' aj s _=>hk ρ' aj s fun hl=>by simp[oE] at hl
  obtain⟨d,hd,h⟩:=h;exact⟨d,hd,rG (s:=.id) (cn.ok_nil _) h bo⟩
theorem SE.merge_ev {aj:cn}{ρ:Env}(h:aj.ok ρ)(s a b:SE)(lr lo:List Nat)(c:PE):(s.merge aj lr lo c a b).ev ρ=(s.ev ρ).join lr lo (if(c.ev ρ).b=true then a.ev ρ else b.ev ρ):=by
 have h1:∀u,((s.merge aj lr lo c a b).getR u).ev ρ=((s.ev ρ).join lr lo (if(c.ev ρ).b=true then a.ev ρ else b.ev ρ)).r u:=by
  intro u;rw[Env.join_r];have e:bS (s.merge aj lr lo c a b).r u=if u∈lr then some (tz aj c (a.getR u) (b.getR u)) else bS s.r u:=xF lr;have e2:(s.merge aj lr lo c a b).getR u=if u∈lr then tz aj c (a.getR u) (b.getR u) else s.getR u:=by
   unfold SE.getR;rw[e];by_cases h:u∈lr<;>simp[h,SE.getR]
  rw[e2];by_cases hu:u∈lr
  ·simp only[hu,if_true,SV h,PE.ev];cases hc:(c.ev ρ).b<;>simp[SE.ev]
  ·simp only[hu,if_false];rfl
 have h2:∀u,((s.merge aj lr lo c a b).getO u).ev ρ=((s.ev ρ).join lr lo (if(c.ev ρ).b=true then a.ev ρ else b.ev ρ)).o u:=by
  intro u;rw[Env.join_o];have e:bS (s.merge aj lr lo c a b).o u=if u∈lo then some (tz aj c (a.getO u) (b.getO u)) else bS s.o u:=xF lo;have e2:(s.merge aj lr lo c a b).getO u=if u∈lo then tz aj c (a.getO u) (b.getO u) else s.getO u:=by
   unfold SE.getO;rw[e];by_cases h:u∈lo<;>simp[h,SE.getO]
  rw[e2];by_cases hu:u∈lo
  ·simp only[hu,if_true,SV h,PE.ev];cases hc:(c.ev ρ).b<;>simp[SE.ev]
  ·simp only[hu,if_false];rfl
 have e1:(fun u=>((s.merge aj lr lo c a b).getR u).ev ρ)=((s.ev ρ).join lr lo (if(c.ev ρ).b=true then a.ev ρ else b.ev ρ)).r:=funext h1;have e2:(fun u=>((s.merge aj lr lo c a b).getO u).ev ρ)=((s.ev ρ).join lr lo (if(c.ev ρ).b=true then a.ev ρ else b.ev ρ)).o:=funext h2;show Env.mk _ _=_;rw[e1,e2]
theorem SX {T:cL}{aj:cn}{ρ:Env}(ha:aj.ok ρ):∀{l:List PI} {s s':SE},qe l aj s=some s'→∀{K:Env→Prop},K (s'.ev ρ)→hH T l (s.ev ρ) K
 |[],s,s',h,K,hk=>by simp only[qe,bx] at h;subst h;exact hk
 |.setR t e::l,s,s',h,K,hk=>by simp only[hH];rw[←PE.sub_ev ha s e,←SE.setR_ev];exact SX (l:=l) ha (show qe l aj _=some s' from h) hk
 |.setO t e::l,s,s',h,K,hk=>by simp only[hH];rw[←PE.sub_ev ha s e,←SE.setO_ev];exact SX (l:=l) ha (show qe l aj _=some s' from h) hk
 |.chk _::_,_,_,h,_,_=>by simp[qe] at h
 |.call ..::_,_,_,h,_,_=>by simp[qe] at h
 |.callc ..::_,_,_,h,_,_=>by simp[qe] at h
 |.mcall ..::_,_,_,h,_,_=>by simp[qe] at h
theorem aur {T:cL}{aj:cn}{ρ:Env}(ha:aj.ok ρ):∀(c:PC) {s s':SE},plain c aj s=some s'→∀{Q:Out→Prop},Q (.next (s'.ev ρ))→aL T c (s.ev ρ) Q:=by
 intro c
 induction c with
 |skip=>intro s s' h Q hq;simp only[plain,bx] at h;subst h;exact .skip hq
 |is l=>intro s s' h Q hq;exact .is (SX ha h hq)
 |seq a b bO eC=>
  intro s s' h Q hq;simp only[plain,aG] at h;obtain⟨s1,h1,h2⟩:=h;exact .seq (bO h1 (eC h2 hq))
 |ite c lr lo a b bO eC=>
  intro s s' h Q hq;simp only[plain,aG,aR] at h;obtain⟨sa,h1,sb,h2,rfl⟩:=h;rw[SE.merge_ev ha,PE.sub_ev ha] at hq;refine .ite ?_;split
  ·rename_i hc;rw[if_pos hc] at hq;exact bO h1 hq
  ·rename_i hc;rw[if_neg hc] at hq;exact eC h2 hq
 |_=>intro s s' h;simp[plain] at h
theorem Nb {T:cL}:∀(c:PC) {aj:cn} {s:SE} {k:Kn} {kx:Kx} {ρ:Env} {Q Q':Out→Prop},aj.ok ρ→aK T (sx c aj s k kx) ρ Q→
 (∀ρ' aj s,(dT c=true→ρ'=ρ)→aj.ok ρ'→aK T (k aj s) ρ' Q→Q' (.next (s.ev ρ')))→
 (∀ρ' aj id s,(dT c=true→ρ'=ρ)→aj.ok ρ'→aK T (kx aj id s) ρ' Q→Q' (.exit id (s.ev ρ')))→(dT c=false→∀id ρ',Q (.exit id ρ')→Q' (.exit id ρ'))→(∀d,Q (.ret d)→Q' (.ret d))→aL T c (s.ev ρ) Q':=by
 intro c;have alone:∀(a:PC),(∀{aj:cn} {s:SE} {k:Kn} {kx:Kx} {ρ:Env} {Q Q':Out→Prop},aj.ok ρ→aK T (sx a aj s k kx) ρ Q→
  (∀ρ' aj s,(dT a=true→ρ'=ρ)→aj.ok ρ'→aK T (k aj s) ρ' Q→Q' (.next (s.ev ρ')))→
  (∀ρ' aj id s,(dT a=true→ρ'=ρ)→aj.ok ρ'→aK T (kx aj id s) ρ' Q→Q' (.exit id (s.ev ρ')))→(dT a=false→∀id ρ',Q (.exit id ρ')→Q' (.exit id ρ'))→(∀d,Q (.ret d)→Q' (.ret d))→aL T a (s.ev ρ) Q')→
  ∀{ρ:Env} {Q:Out→Prop},aK T (sx a [] .id (fun _ s=>.next s) (fun _ id s=>.exit id s)) ρ Q→aL T a ρ Q:=by
  intro a ih ρ Q h;exact ih (s:=.id) (cn.ok_nil _) h (fun ρ' aj s _ _ h=>h) (fun ρ' aj id s _ _ h=>h) (fun _ _ _ h=>h) (fun _ h=>h)
 induction c with
 |skip=>intro aj s k kx ρ Q Q' ha h hk _ _ _;exact .skip (hk ρ aj s (fun _=>rfl) ha h)
 |is l=>intro aj s k kx ρ Q Q' ha h hk _ _ _;exact .is (rG (K:=fun ρ'=>Q' (.next ρ')) ha h hk)
 |seq a b bO eC=>
  intro aj s k kx ρ Q Q' ha h hk hx ku hr;refine .seq (bO ha h (Q':=g8 (fun ρ'=>aL T b ρ' Q') Q') (fun ρ' aj s hp wW h'=>?_) (fun ρ' aj id s hp wW h'=>?_) (fun hp=>?_) hr)
  ·refine eC wW h' (fun ρ2 aj s fI=>hk ρ2 aj s fun hl=>?_) (fun ρ2 aj id s fI=>hx ρ2 aj id s fun hl=>?_) (fun fI=>?_) hr
   ·simp only[dT,az] at hl;rw[fI hl.2,hp hl.1]
   ·simp only[dT,az] at hl;rw[fI hl.2,hp hl.1]
   ·exact ku (by simp[dT,fI])
  ·exact hx ρ' aj id s (fun hl=>by simp only[dT,az] at hl;exact hp hl.1) wW h'
  ·exact ku (by simp[dT,hp])
 |ite c lr lo a b bO eC=>
  intro aj s k kx ρ Q Q' ha h hk hx ku hr;have cf:((c.sub' aj s).ev ρ).b=(c.ev (s.ev ρ)).b:=by rw[PE.sub_ev ha]
  have struct:(dT a&&dT b)=false→aK T (.iteS s (c.sub' aj s) lr lo (sx a [] .id (fun _ s=>.next s) (fun _ id s=>.exit id s)) (sx b [] .id (fun _ s=>.next s) (fun _ id s=>.exit id s)) (k [] .id)) ρ Q→aL T (.ite c lr lo a b) (s.ev ρ) Q':=by
   intro En h;have pW:dT (.ite c lr lo a b)=false:=En;simp only[aK,cf] at h
   have conv:∀x,kW (s.ev ρ) lr lo (g8 (fun ρ'=>aK T (k [] .id) ρ' Q) Q) x→kW (s.ev ρ) lr lo Q' x:=by
      intro x du;cases x with
      |next ρ'=>exact hk _ [] .id (fun hl=>by rw[pW] at hl;cases hl) (cn.ok_nil _) du
      |exit id ρ'=>exact ku pW id ρ' du
      |ret d=>exact hr d du
   refine .ite ?_;split at h
   ·rename_i hc;rw[if_pos hc];exact(alone a bO h).mono conv
   ·rename_i hc;rw[if_neg hc];exact(alone b eC h).mono conv
  have inA:∀wj,wj.ok ρ→dT a=true→aK T (sx a wj s (fun aj s'=>k aj (s.join lr lo s')) kx) ρ Q→aL T a (s.ev ρ) (kW (s.ev ρ) lr lo Q'):=by
   intro wj wW eB h';refine bO wW h' (fun ρ' aj s' hp od kO=>?_) (fun ρ' aj id s' hp od kO=>?_) (fun hp=>by rw[eB] at hp;cases hp) hr
   ·have e:=hp eB;subst e;show Q' (.next _);rw[←SE.join_ev];exact hk ρ' aj _ (fun _=>rfl) od kO
   ·have e:=hp eB;subst e;exact hx ρ' aj id s' (fun _=>rfl) od kO
  have ax:∀wj,wj.ok ρ→dT b=true→aK T (sx b wj s (fun aj s'=>k aj (s.join lr lo s')) kx) ρ Q→aL T b (s.ev ρ) (kW (s.ev ρ) lr lo Q'):=by
   intro wj wW eB h';refine eC wW h' (fun ρ' aj s' hp od kO=>?_) (fun ρ' aj id s' hp od kO=>?_) (fun hp=>by rw[eB] at hp;cases hp) hr
   ·have e:=hp eB;subst e;show Q' (.next _);rw[←SE.join_ev];exact hk ρ' aj _ (fun _=>rfl) od kO
   ·have e:=hp eB;subst e;exact hx ρ' aj id s' (fun _=>rfl) od kO
  simp only[sx] at h;split at h
  ·rename_i ht;cases eB:dT a<;>simp only[eB,cond_true,cond_false] at h
   ·exact struct (by simp[eB]) h
   ·refine .ite ?_;rw[if_pos (by rw[←cf];exact yD ha ht)];exact inA aj ha eB h
  ·rename_i ht;cases eB:dT b<;>simp only[eB,cond_true,cond_false] at h
   ·exact struct (by simp[eB]) h
   ·refine .ite ?_;rw[if_neg (by rw[←cf,yD ha ht];simp)];exact ax aj ha eB h
  ·split at h
   ·rename_i sa sb KG kr;have eO:plain (.ite c lr lo a b) aj s=some (s.merge aj lr lo (c.sub' aj s) sa sb):=by simp[plain,KG,kr]
    exact aur ha _ eO (hk ρ aj _ (fun _=>rfl) ha h)
   cases eB:(dT a&&dT b)<;>simp only[eB,cond_true,cond_false] at h
   ·exact struct eB h
   ·simp only[az] at eB;simp only[aK] at h;refine .ite ?_;rw[←cf];split at h
    ·rename_i hc;rw[if_pos hc];exact inA _ (cn.ok_cons ha hc) eB.1 h
    ·rename_i hc;rw[if_neg hc];exact ax _ (cn.ok_cons ha (by simpa using hc)) eB.2 h
 |block id lr lo a bO=>
  intro aj s k kx ρ Q Q' ha h hk hx ku hr;simp only[sx] at h;cases eB:dT a<;>simp only[eB,cond_true,cond_false] at h
  ·have pW:dT (.block id lr lo a)=false:=eB;cases hl:acz a<;>simp only[hl,cond_true,cond_false] at h
   case true=>
        simp only[aK] at h;refine aL.mono h fun x du=>?_;cases x with
        |next ρ'=>exact hk _ [] .id (fun hl=>by rw[pW] at hl;cases hl) (cn.ok_nil _) du
        |exit id ρ'=>exact ku pW id ρ' du
        |ret d=>exact hr d du
   simp only[aK] at h;refine .block ((alone a bO h).mono fun x du=>?_);cases x with
   |next ρ'=>exact hk _ [] .id (fun hl=>by rw[pW] at hl;cases hl) (cn.ok_nil _) du
   |exit cg ρ'=>
    simp only[me] at du ⊢;split
    ·rename_i e;rw[if_pos e] at du;exact hk _ [] .id (fun hl=>by rw[pW] at hl;cases hl) (cn.ok_nil _) du
    ·rename_i e;rw[if_neg e] at du;exact ku pW cg ρ' du
   |ret d=>exact hr d du
  ·refine .block (bO ha h (fun ρ' aj s' hp od kO=>?_) (fun ρ' aj cg s' hp od kO=>?_) (fun hp=>by rw[eB] at hp;cases hp) hr)
   ·have e:=hp eB;subst e;show Q' (.next _);rw[←SE.join_ev];exact hk ρ' aj _ (fun _=>rfl) od kO
   ·have e:=hp eB;subst e;simp only[me];by_cases cM:cg=id
    ·subst cM;simp only[mT,cond_true] at kO;rw[if_pos rfl,←SE.join_ev];exact hk ρ' aj _ (fun _=>rfl) od kO
    ·rw[gA cM,cond_false] at kO;rw[if_neg cM];exact hx ρ' aj cg s' (fun _=>rfl) od kO
 |loop lr lo a bO=>
  intro aj s k kx ρ Q Q' ha h hk hx ku hr;simp only[sx,aK] at h;refine aL.mono h fun x du=>?_;cases x with
  |next ρ'=>exact hk _ [] .id (fun hl=>by cases hl) (cn.ok_nil _) du
  |exit id ρ'=>exact ku rfl id ρ' du
  |ret d=>exact hr d du
 |each e ps lo rt a bO=>
  intro aj s k kx ρ Q Q' ha h hk hx ku hr;simp only[sx,aK] at h;refine aL.mono h fun x du=>?_;cases x with
  |next ρ'=>exact hk _ [] .id (fun hl=>by cases hl) (cn.ok_nil _) du
  |exit id ρ'=>exact ku rfl id ρ' du
  |ret d=>exact hr d du
 |meach J ps dk lo a bO=>
  intro aj s k kx ρ Q Q' ha h hk hx ku hr;simp only[sx,aK] at h;refine aL.mono h fun x du=>?_;cases x with
  |next ρ'=>exact hk _ [] .id (fun hl=>by cases hl) (cn.ok_nil _) du
  |exit id ρ'=>exact ku rfl id ρ' du
  |ret d=>exact hr d du
 |exit id=>intro aj s k kx ρ Q Q' ha h _ hx _ _;exact .exit (hx ρ aj id s (fun _=>rfl) ha h)
 |ret e=>
  intro aj s k kx ρ Q Q' ha h _ _ _ hr;simp only[sx,aK] at h;refine .ret (hr _ ?_);rw[PE.sub_ev ha] at h;exact h
def Lk.un (a b:Lk):Lk:=⟨Nat.lor a.r b.r,jJ a.o b.o⟩
def bits (l:List Nat):Nat:=l.foldr (fun t m=>Nat.lor (gS t) m) 0
theorem Pb {l:List Nat}{t:Nat}(h:t∈l):aV (bits l) t=true:=by
 induction l with
 |nil=>cases h
 |cons x l ih=>
  show aV (Nat.lor (gS x) (bits l)) t=true;rw[gB];rcases cW.1 h with e|h
  ·subst e;rw[qH];rfl
  ·rw[ih h,rU]
theorem Yh:∀{a b:List Nat} {x:Nat},x∈jJ a b↔x∈a∨x∈b
 |[],b,x=>by simp[jJ]
 |y::a,b,x=>by
  have ih:=Yh (a:=a) (b:=bif fU b y then b else y::b) (x:=x);show x∈jJ a _↔_;rw[ih];cases hb:fU b y with
  |true=>simp only[cond_true,cW];have:=(rj b y).1 hb;constructor
         ·rintro(h|h);exact .inl (.inr h);exact .inr h
         ·rintro((rfl|h)|h);exact .inr this;exact .inl h;exact .inr h
  |false=>simp only[cond_false,cW];constructor
          ·rintro(h|h|h);exact .inl (.inr h);exact .inl (.inl h);exact .inr h
          ·rintro((h|h)|h);exact .inr (.inl h);exact .inl h;exact .inr (.inr h)
def Lk.Le (a K:Lk):Prop:=(∀t,aV a.r t=true→aV K.r t=true)∧∀j,j∈a.o→j∈K.o
theorem Lk.le_l (a b:Lk):a.Le (a.un b):=⟨fun t h=>by simp only[Lk.un,gB,h,Ci],fun j h=>Yh.2 (.inl h)⟩
theorem Lk.le_r (a b:Lk):b.Le (a.un b):=⟨fun t h=>by simp only[Lk.un,gB,h,rU],fun j h=>Yh.2 (.inr h)⟩
theorem Lk.Le.trans {a b c:Lk}(h:a.Le b)(k:b.Le c):a.Le c:=⟨fun t ht=>k.1 t (h.1 t ht),fun j hj=>k.2 j (h.2 j hj)⟩
theorem Alike.le {a K:Lk}{ρ ρ':Env}(h:Alike K ρ ρ')(k:a.Le K):Alike a ρ ρ':=⟨fun t ht=>h.r t (k.1 t ht),fun j hj=>h.o j (k.2 j hj)⟩
theorem Lk.Le.of_un {a b K:Lk}(h:(a.un b).Le K):a.Le K∧b.Le K:=⟨(Lk.le_l a b).trans h,(Lk.le_r a b).trans h⟩
theorem Alike.setR {K:Lk}{ρ ρ':Env}(h:Alike K ρ ρ')(t:Nat)(d:D):Alike K (ρ.setR t d) (ρ'.setR t d):=⟨fun u hu=>by rw[Env.setR_r,Env.setR_r];split;rfl;exact h.r u hu,h.o⟩
theorem Alike.setO {K:Lk}{ρ ρ':Env}(h:Alike K ρ ρ')(t:Nat)(d:D):Alike K (ρ.setO t d) (ρ'.setO t d):=⟨h.r,fun u hu=>by rw[Env.setO_o,Env.setO_o];split;rfl;exact h.o u hu⟩
theorem Alike.join {K:Lk}{ρ ρ' η η':Env}(h:Alike K ρ ρ')(k:Alike K η η')(lr lo:List Nat):Alike K (ρ.join lr lo η) (ρ'.join lr lo η'):=
 ⟨fun u hu=>by rw[Env.join_r,Env.join_r];split;exact k.r u hu;exact h.r u hu,fun u hu=>by rw[Env.join_o,Env.join_o];split;exact k.o u hu;exact h.o u hu⟩
theorem S5 {f g:Nat→D}{u:Nat}(h:g u=f u):∀(ts:List Nat) (xs:List D),putL g ts xs u=putL f ts xs u
 |[],xs=>by rw[LQ,LQ];exact h
 |t::ts,[]=>by simp only[putL];exact h
 |t::ts,x::xs=>by rw[LP,LP];split;rfl;exact S5 h ts xs
theorem Alike.put {K:Lk}{ρ ρ':Env}(h:Alike K ρ ρ')(lr lo:List Nat)(vr vo:List D):Alike K (ρ.put lr vr lo vo) (ρ'.put lr vr lo vo):=⟨fun u hu=>S5 (h.r u hu) lr vr,fun u hu=>S5 (h.o u hu) lo vo⟩
def PI.lkw:PI→Lk
 |.setR t e=>e.lk.un ⟨gS t,[]⟩
 |.setO j e=>e.lk.un ⟨0,[j]⟩
 |.chk e=>e.lk
 |.call gs dst f aa=>(PI.call gs dst f aa).lk.un ⟨gS dst,[]⟩
 |.callc gs dst e aa=>(PI.callc gs dst e aa).lk.un ⟨gS dst,[]⟩
 |.mcall j f aa=>(PI.mcall j f aa).lk.un ⟨0,[j]⟩
def PC.lk:PC→Lk
 |.skip=>.none
 |.exit _=>.none
 |.is l=>l.foldr (fun p k=>p.lkw.un k) .none
 |.seq a b=>(PC.lk a).un (PC.lk b)
 |.ite c _ _ a b=>c.lk.un ((PC.lk a).un (PC.lk b))
 |.block _ _ _ a=>PC.lk a
 |.loop lr lo a=>(⟨bits lr,lo⟩:Lk).un (PC.lk a)
 |.ret e=>e.lk
 |.each e _ lo rt a=>e.lk.un ((match rt with|some e=>e.lk|none=>.none).un ((⟨0,lo⟩:Lk).un (PC.lk a)))
 |.meach J _ _ lo a=>(⟨0,J::lo⟩:Lk).un (PC.lk a)
structure Off (K:Lk) (b η η':Env):Prop where
 al:Alike K η η'
 r:∀t,aV K.r t=false→η'.r t=b.r t
 o:∀j,j∉K.o→η'.o j=b.o j
def ug (K:Lk)(b:Env):Out→Out→Prop
 |.next η,x=>∃η',x=.next η'∧Off K b η η'
 |.exit i η,x=>∃η',x=.exit i η'∧Off K b η η'
 |.ret d,x=>x=.ret d
theorem Off.uniq {K:Lk}{b η η' η2:Env}(h:Off K b η η')(k:Off K b η η2):η2=η':=by
 have h1:∀t,η2.r t=η'.r t:=fun t=>by
  cases hb:aV K.r t with
  |true=>rw[k.al.r t hb,h.al.r t hb]
  |false=>rw[k.r t hb,h.r t hb]
 have h2:∀t,η2.o t=η'.o t:=fun t=>by
  by_cases hb:t∈K.o
  ·rw[k.al.o t hb,h.al.o t hb]
  ·rw[k.o t hb,h.o t hb]
 cases η2;cases η'
 congr
 ·exact funext h1
 ·exact funext h2
theorem ug.uniq {K:Lk}{b:Env}{x y z:Out}(h:ug K b x y)(k:ug K b x z):z=y:=by
 cases x with
 |next η=>obtain⟨a,rfl,h⟩:=h;obtain⟨c,rfl,k⟩:=k;rw[h.uniq k]
 |exit i η=>obtain⟨a,rfl,h⟩:=h;obtain⟨c,rfl,k⟩:=k;rw[h.uniq k]
 |ret d=>rw[h,k]
theorem Off.setR {K:Lk}{b η η':Env}(h:Off K b η η'){t:Nat}(ht:aV K.r t=true)(d:D):Off K b (η.setR t d) (η'.setR t d):=
 ⟨h.al.setR t d,fun u hu=>by rw[Env.setR_r,if_neg (fun e=>by rw[e,ht] at hu;cases hu)];exact h.r u hu,h.o⟩
theorem Off.setO {K:Lk}{b η η':Env}(h:Off K b η η'){t:Nat}(ht:t∈K.o)(d:D):Off K b (η.setO t d) (η'.setO t d):=
 ⟨h.al.setO t d,h.r,fun u hu=>by rw[Env.setO_o,if_neg (fun e=>hu (by rw[e];exact ht))];exact h.o u hu⟩
theorem Off.join {K:Lk}{b η η' ζ ζ':Env}(h:Off K b η η')(k:Off K b ζ ζ')(lr lo:List Nat):Off K b (η.join lr lo ζ) (η'.join lr lo ζ'):=
 ⟨h.al.join k.al lr lo,fun u hu=>by rw[Env.join_r];split;exact k.r u hu;exact h.r u hu,fun u hu=>by rw[Env.join_o];split;exact k.o u hu;exact h.o u hu⟩
theorem S8 {f:Nat→D}{b:D}{u:Nat}(h:f u=b):∀(ts:List Nat) (xs:List D),u∉ts→putL f ts xs u=b
 |[],xs,_=>by rw[LQ];exact h
 |t::ts,[],_=>by simp only[putL];exact h
 |t::ts,x::xs,hu=>by rw[LP,if_neg (fun e=>hu (by simp[e]))];exact S8 h ts xs (fun e=>hu (by simp[e]))
theorem Off.put {K:Lk}{b η η':Env}(h:Off K b η η'){lr lo:List Nat}(hr:∀t,t∈lr→aV K.r t=true)(ho:∀t,t∈lo→t∈K.o)(vr vo:List D):Off K b (η.put lr vr lo vo) (η'.put lr vr lo vo):=
 ⟨h.al.put lr lo vr vo,fun u hu=>S8 (h.r u hu) lr vr (fun e=>by rw[hr u e] at hu;cases hu),fun u hu=>S8 (h.o u hu) lo vo (fun e=>hu (ho u e))⟩
theorem PI.run_off {Φ:aY}{K:Lk}{b ρ ρ' η:Env}{p:PI}(hp:p.lkw.Le K)(h:Off K b ρ ρ')(hr:p.run Φ ρ=some η):∃η',p.run Φ ρ'=some η'∧Off K b η η':=by
 have sR:p.lk.Le K:=by cases p<;>first|exact hp|exact hp.of_un.1
 rw[PI.run_eff,PI.eff_alike p (h.al.le sR)];rw[PI.run_eff] at hr;cases he:p.eff Φ ρ with
 |none=>rw[he] at hr;cases hr
 |some x=>
  rw[he] at hr;simp only[ly,bx] at hr;subst hr;refine⟨_,rfl,?_⟩;have hb:∀{t:Nat} {a:Lk},(a.un ⟨gS t,[]⟩).Le K→aV K.r t=true:=fun h=>h.of_un.2.1 _ (qH _);have ho:∀{t:Nat} {a:Lk},(a.un ⟨0,[t]⟩).Le K→t∈K.o:=fun h=>h.of_un.2.2 _ (by simp);cases p with
  |setR t e=>simp only[PI.eff,bx] at he;subst he;exact h.setR (hb hp) _
  |setO t e=>simp only[PI.eff,bx] at he;subst he;exact h.setO (ho hp) _
  |chk e=>simp only[PI.eff] at he;cases wZ:(e.ev ρ).b<;>rw[wZ] at he<;>cases he;exact h
  |call gs d f aa=>
   simp only[PI.eff] at he;cases wZ:holds gs ρ<;>simp only[wZ,cond_true,cond_false,bx,aR] at he
   ·subst he;exact h
   ·obtain⟨y,_,rfl⟩:=he;exact h.setR (hb hp) _
  |callc gs d e aa=>
   simp only[PI.eff] at he;cases wZ:holds gs ρ<;>simp only[wZ,cond_true,cond_false,bx] at he
   ·subst he;exact h
   ·split at he
    ·simp only[aR] at he;obtain⟨y,_,rfl⟩:=he;exact h.setR (hb hp) _
    ·cases he
  |mcall j f aa=>simp only[PI.eff,aR] at he;obtain⟨y,_,rfl⟩:=he;exact h.setO (ho hp) _
theorem PI.runs_off {Φ:aY}{K:Lk}{b:Env}:∀{l:List PI} {ρ ρ' η:Env},(l.foldr (fun p k=>p.lkw.un k) Lk.none).Le K→Off K b ρ ρ'→PI.runs Φ l ρ=some η→∃η',PI.runs Φ l ρ'=some η'∧Off K b η η'
 |[],ρ,ρ',η,_,h,hr=>by simp only[PI.runs,bx] at hr ⊢;subst hr;exact⟨_,rfl,h⟩
 |p::l,ρ,ρ',η,hl,h,hr=>by
  simp only[PI.runs,aG] at hr;obtain⟨ρ1,h1,h2⟩:=hr;obtain⟨ρ2,h3,h4⟩:=PI.run_off hl.of_un.1 h h1;obtain⟨η',h5,h6⟩:=PI.runs_off (l:=l) hl.of_un.2 h4 h2;exact⟨η',by simp only[PI.runs,h3,vY,h5],h6⟩
theorem xI {K:Lk}{b η η':Env}(h:Off K b η η'){lo:List Nat}(ho:∀t,t∈lo→t∈K.o):lo.map η'.o=lo.map η.o:=yO fun t ht=>h.al.o t (ho t ht)
theorem ac7 {K:Lk}{b η η':Env}(h:Off K b η η'){lr:List Nat}(hr:∀t,t∈lr→aV K.r t=true):lr.map η'.r=lr.map η.r:=yO fun t ht=>h.al.r t (hr t ht)
theorem PC.ev_off {Φ:aY}{n:Nat}{K:Lk}:∀(c:PC),c.lk.Le K→∀{b ρ ρ':Env} {x:Out},Off K b ρ ρ'→c.ev Φ n ρ=some x→∃x',c.ev Φ n ρ'=some x'∧ug K b x x':=by
 intro c
 induction c with
 |skip=>intro _ b ρ ρ' x h hr;simp only[PC.ev,bx] at hr ⊢;subst hr;exact⟨_,rfl,_,rfl,h⟩
 |exit id=>intro _ b ρ ρ' x h hr;simp only[PC.ev,bx] at hr ⊢;subst hr;exact⟨_,rfl,_,rfl,h⟩
 |ret e=>intro hk B ρ ρ' x h hr;simp only[PC.ev,bx] at hr ⊢;subst hr;exact⟨_,rfl,by rw[PE.ev_alike e (h.al.le hk)];rfl⟩
 |is l=>
  intro hk B ρ ρ' x h hr;simp only[PC.ev,aR] at hr;obtain⟨η,h1,rfl⟩:=hr;obtain⟨η',h2,h3⟩:=PI.runs_off hk h h1;exact⟨.next η',by simp only[PC.ev,h2,ly],η',rfl,h3⟩
 |seq a b bO eC=>
  intro hk B ρ ρ' x h hr;simp only[PC.ev] at hr ⊢;cases ha:a.ev Φ n ρ with
  |none=>rw[ha] at hr;cases hr
  |some y=>
   obtain⟨y',h1,h2⟩:=bO hk.of_un.1 h ha;rw[ha] at hr;rw[h1];cases y with
   |next η=>obtain⟨η',rfl,h3⟩:=h2;exact eC hk.of_un.2 h3 hr
   |exit i η=>obtain⟨η',rfl,h3⟩:=h2;cases hr;exact⟨_,rfl,η',rfl,h3⟩
   |ret d=>cases h2;cases hr;exact⟨_,rfl,rfl⟩
 |ite c lr lo a b bO eC=>
  intro hk B ρ ρ' x h hr;have hc:(c.ev ρ').b=(c.ev ρ).b:=by rw[PE.ev_alike c (h.al.le hk.of_un.1)]
  have key:∀(d:PC),(∀{ρ ρ':Env} {x:Out},Off K B ρ ρ'→d.ev Φ n ρ=some x→∃x',d.ev Φ n ρ'=some x'∧ug K B x x')→(match d.ev Φ n ρ with|some (.next η)=>some (.next (ρ.join lr lo η))|x=>x)=some x→
      ∃x',(match d.ev Φ n ρ' with|some (.next η)=>some (.next (ρ'.join lr lo η))|x=>x)=some x'∧ug K B x x':=by
   intro d ih hr;cases ha:d.ev Φ n ρ with
   |none=>rw[ha] at hr;cases hr
   |some y=>
    obtain⟨y',h1,h2⟩:=ih h ha;rw[ha] at hr;rw[h1];cases y with
    |next η=>obtain⟨η',rfl,h3⟩:=h2;cases hr;exact⟨_,rfl,_,rfl,h.join h3 lr lo⟩
    |exit i η=>obtain⟨η',rfl,h3⟩:=h2;cases hr;exact⟨_,rfl,η',rfl,h3⟩
    |ret d=>cases h2;cases hr;exact⟨_,rfl,rfl⟩
  simp only[PC.ev,hc] at hr ⊢;cases iX:(c.ev ρ).b<;>simp only[iX,cond_true,cond_false] at hr ⊢
  ·exact key b (fun h1 h2=>eC hk.of_un.2.of_un.2 h1 h2) hr
  ·exact key a (fun h1 h2=>bO hk.of_un.2.of_un.1 h1 h2) hr
 |block id lr lo a bO=>
  intro hk B ρ ρ' x h hr;simp only[PC.ev] at hr ⊢;cases ha:a.ev Φ n ρ with
  |none=>rw[ha] at hr;cases hr
  |some y=>
   obtain⟨y',h1,h2⟩:=bO hk h ha;rw[ha] at hr;rw[h1];cases y with
   |next η=>obtain⟨η',rfl,h3⟩:=h2;cases hr;exact⟨_,rfl,_,rfl,h.join h3 lr lo⟩
   |exit i η=>
    obtain⟨η',rfl,h3⟩:=h2;simp only at hr ⊢;cases hb:Nat.beq i id<;>simp only[hb,cond_true,cond_false] at hr ⊢<;>cases hr
    ·exact⟨_,rfl,η',rfl,h3⟩
    ·exact⟨_,rfl,_,rfl,h.join h3 lr lo⟩
   |ret d=>cases h2;cases hr;exact⟨_,rfl,rfl⟩
 |loop lr lo a bO=>
  intro hk B ρ ρ' x h hr;have oq:∀t,t∈lr→aV K.r t=true:=fun t ht=>hk.of_un.1.1 t (Pb ht);have jY:∀t,t∈lo→t∈K.o:=fun t ht=>hk.of_un.1.2 t ht;have key:∀(m:Nat) (vr vo:List D),iL (a.ev Φ n) ρ lr lo m vr vo=some x→∃x',iL (a.ev Φ n) ρ' lr lo m vr vo=some x'∧ug K B x x':=by
   intro m
   induction m with
   |zero=>intro vr vo h;simp[iL] at h
   |succ m Rk=>
    intro vr vo hr;simp only[iL] at hr ⊢;cases ha:a.ev Φ n (ρ.put lr vr lo vo) with
    |none=>rw[ha] at hr;cases hr
    |some y=>
     obtain⟨y',h1,h2⟩:=bO hk.of_un.2 (h.put oq jY vr vo) ha;rw[ha] at hr;rw[h1];cases y with
     |next η=>obtain⟨η',rfl,h3⟩:=h2;simp only[xI h3 jY,ac7 h3 oq];exact Rk _ _ hr
     |exit i η=>obtain⟨η',rfl,h3⟩:=h2;cases hr;exact⟨_,rfl,η',rfl,h3⟩
     |ret d=>cases h2;cases hr;exact⟨_,rfl,rfl⟩
  simp only[PC.ev] at hr ⊢;rw[xI h jY,ac7 h oq];exact key n _ _ hr
 |each e ps lo rt a bO=>
  intro hk B ρ ρ' x h hr;obtain⟨bI,cY⟩:=hk.of_un;obtain⟨cY,jX⟩:=cY.of_un;obtain⟨jX,AR⟩:=jX.of_un;have jY:∀t,t∈lo→t∈K.o:=fun t ht=>jX.2 t ht;have key:∀(xs vo:List D),iV (a.ev Φ n) ρ ps lo rt xs vo=some x→∃x',iV (a.ev Φ n) ρ' ps lo rt xs vo=some x'∧ug K B x x':=by
   intro xs
   induction xs with
   |nil=>intro vo hr;simp only[iV,bx] at hr ⊢;subst hr;exact⟨_,rfl,_,rfl,h.put (fun _ h=>by cases h) jY _ _⟩
   |cons y xs jv=>
    intro vo hr;simp only[iV] at hr ⊢;cases ha:a.ev Φ n (ρ.put ps (partsOf ps y) lo vo) with
    |none=>rw[ha] at hr;cases hr
    |some z=>
     have jt:Off K (ρ'.put ps (partsOf ps y) lo vo) (ρ.put ps (partsOf ps y) lo vo) (ρ'.put ps (partsOf ps y) lo vo):=⟨h.al.put ps lo _ _,fun _ _=>rfl,fun _ _=>rfl⟩
     obtain⟨z',h1,h2⟩:=bO AR jt ha;rw[ha] at hr;rw[h1];cases z with
     |next η=>obtain⟨η',rfl,h3⟩:=h2;simp only[xI h3 jY];exact jv _ hr
     |exit i η=>
      obtain⟨η',rfl,h3⟩:=h2;simp only[xI h3 jY] at hr ⊢;have hp:=h.put (lr:=[]) (fun _ h=>by cases h) jY [] (lo.map η.o);cases hb:Nat.beq i cT<;>simp only[hb,cond_true,cond_false] at hr ⊢
      ·cases hr;exact⟨_,rfl,_,rfl,hp⟩
      ·cases rt with
       |none=>cases hr
       |some e2=>cases hr;exact⟨_,rfl,by show Out.ret _=Out.ret _;rw[PE.ev_alike e2 (hp.al.le cY)]⟩
     |ret d=>cases hr
  simp only[PC.ev] at hr ⊢;rw[PE.ev_alike e (h.al.le bI),xI h jY];exact key _ _ hr
 |meach J ps dk lo a bO=>
  intro hk B ρ ρ' x h hr;obtain⟨jX,AR⟩:=hk.of_un;have jY:∀t,t∈lo→t∈K.o:=fun t ht=>jX.2 t (fL _ ht);have hJ:ρ'.o J=ρ.o J:=h.al.o J (jX.2 J (gd ..));have key:∀(es:D) (xs done vo rP:List D),oD (a.ev Φ n) ρ J es ps dk lo xs done vo=some rP→oD (a.ev Φ n) ρ' J es ps dk lo xs done vo=some rP:=by
   intro es xs
   induction xs with
   |nil=>intro done vo rP h;exact h
   |cons y xs jv=>
    intro done vo rP hr;simp only[oD] at hr ⊢;cases ha:a.ev Φ n ((ρ.put ps (dk.map y.tget) lo vo).setO J (.tup [.list (done++[y]),es])) with
    |none=>rw[ha] at hr;cases hr
    |some z=>
     have jt:Off K ((ρ'.put ps (dk.map y.tget) lo vo).setO J (.tup [.list (done++[y]),es])) ((ρ.put ps (dk.map y.tget) lo vo).setO J (.tup [.list (done++[y]),es])) ((ρ'.put ps (dk.map y.tget) lo vo).setO J (.tup [.list (done++[y]),es])):=
          ⟨(h.al.put ps lo _ _).setO J _,fun _ _=>rfl,fun _ _=>rfl⟩
     obtain⟨z',h1,h2⟩:=bO AR jt ha;rw[ha] at hr;rw[h1];cases z with
     |next η=>obtain⟨η',rfl,h3⟩:=h2;simp only[xI h3 jY];exact jv _ _ _ hr
     |exit i η=>cases hr
     |ret d=>cases hr
  simp only[PC.ev,Bx] at hr;obtain⟨vo,⟨h1,h2⟩,rfl⟩:=hr;refine⟨.next (ρ'.put [] [] lo vo),?_,_,rfl,h.put (fun _ h=>by cases h) jY _ _⟩;simp only[PC.ev,Bx];refine⟨vo,⟨by rw[hJ];exact h1,fun ys hy=>?_⟩,rfl⟩;rw[hJ] at hy ⊢;rw[xI h jY];exact key _ _ _ _ _ (h2 ys hy)
def nY:List Nat→PC→Bool
 |l,.exit id=>fU l id
 |l,.seq a b=>nY l a&&nY l b
 |l,.ite _ _ _ a b=>nY l a&&nY l b
 |l,.block id _ _ a=>nY (id::l) a
 |l,.loop _ _ a=>nY l a
 |l,.each _ _ _ _ a=>nY (cT::l) a
 |_,_=>true
theorem amf {Φ:aY}{n:Nat}:∀(c:PC) {l:List Nat},nY l c=true→∀{ρ:Env} {i:Nat} {η:Env},c.ev Φ n ρ=some (.exit i η)→i∈l:=by
 intro c
 induction c with
 |skip=>intro l _ ρ i η h;simp[PC.ev] at h
 |exit id=>intro l hl ρ i η h;simp only[PC.ev,bx] at h;injection h with h1 h2;subst h1;exact(rj _ _).1 hl
 |ret e=>intro l _ ρ i η h;simp[PC.ev] at h
 |is _=>intro l _ ρ i η h;simp[PC.ev] at h
 |seq a b bO eC=>
  intro l hl ρ i η h;simp only[nY,az] at hl;simp only[PC.ev] at h;split at h
  ·exact eC hl.2 h
  ·exact bO hl.1 h
 |ite c lr lo a b bO eC=>
  intro l hl ρ i η h;simp only[nY,az] at hl;simp only[PC.ev] at h;cases hc:(c.ev ρ).b<;>simp only[hc,cond_true,cond_false] at h
  ·split at h
   ·cases h
   ·exact eC hl.2 h
  ·split at h
   ·cases h
   ·exact bO hl.1 h
 |block id lr lo a bO=>
  intro l hl ρ i η h;simp only[PC.ev] at h;split at h
  ·cases h
  ·rename_i cg ρ2 ha;cases hb:Nat.beq cg id<;>simp only[hb,cond_true,cond_false] at h<;>cases h;rcases cW.1 (bO hl ha) with e|e
   ·subst e;rw[mT] at hb;cases hb
   ·exact e
  ·rename_i h1 h2;exact absurd h (h2 _ _)
 |loop lr lo a bO=>
  intro l hl ρ i η h;have key:∀(m:Nat) (vr vo:List D),iL (a.ev Φ n) ρ lr lo m vr vo=some (.exit i η)→i∈l:=by
   intro m
   induction m with
   |zero=>intro vr vo h;simp[iL] at h
   |succ m Rk=>
    intro vr vo h;simp only[iL] at h;split at h
    ·exact Rk _ _ h
    ·exact bO hl h
  exact key _ _ _ h
 |each e ps lo rt a bO=>
  intro l hl ρ i η h;have key:∀(xs vo:List D),iV (a.ev Φ n) ρ ps lo rt xs vo=some (.exit i η)→i∈l:=by
   intro xs
   induction xs with
   |nil=>intro vo h;simp[iV] at h
   |cons x xs jv=>
    intro vo h;simp only[iV] at h;split at h
    ·exact jv _ h
    ·rename_i cg ρ2 ha;cases hb:Nat.beq cg cT<;>simp only[hb,cond_true,cond_false] at h
     ·injection h with h;injection h with h1 h2;subst h1
      rcases cW.1 (bO hl ha) with e|e
      ·subst e;rw[mT] at hb;cases hb
      ·exact e
     ·cases rt<;>simp at h
    ·cases h
  exact key _ _ h
 |meach J ps dk lo a _=>
  intro l _ ρ i η h;simp only[PC.ev,Bx] at h;obtain⟨vo,_,h⟩:=h;cases h
def acw (t:Nat):PE→Bool
 |.r u=>Nat.beq u t
 |_=>false
def acx (t:Nat):PE→Bool
 |.o u=>Nat.beq u t
 |_=>false
def fk (ox:Nat→PE→Bool)(p:Nat→Bool):List Nat→List (Nat×PE)→List (Nat×PE)
 |_,[]=>[]
 |seen,x::l=>bif p x.1&& !fU seen x.1 then(bif ox x.1 x.2 then fk ox p (x.1::seen) l else x::fk ox p (x.1::seen) l) else fk ox p seen l
theorem JO {ox:Nat→PE→Bool}{p:Nat→Bool}:∀{l:List (Nat×PE)} {seen:List Nat} {t:Nat},fU seen t=true→bS (fk ox p seen l) t=none
 |[],_,_,_=>rfl
 |x::l,seen,t,h=>by
  have h':fU (x.1::seen) t=true:=by rw[rj] at h ⊢;exact fL _ h
  simp only[fk];cases hb:(p x.1&& !fU seen x.1) with
  |false=>exact JO h
  |true=>
   simp only[cond_true];cases ox x.1 x.2 with
   |true=>exact JO h'
   |false=>
    simp only[cond_false,bS];have:Nat.beq x.1 t=false:=by
      cases e:Nat.beq x.1 t with
      |false=>rfl
      |true=>rw[dF e,h] at hb;simp at hb
    rw[this];exact JO h'
theorem DJ {ox:Nat→PE→Bool}{p:Nat→Bool}{dflt:Nat→PE}(cM:∀t e,ox t e=true→e=dflt t):∀{l:List (Nat×PE)} {seen:List Nat} {t:Nat},p t=true→fU seen t=false→
 (match bS (fk ox p seen l) t with|some e=>e|none=>dflt t)=(match bS l t with|some e=>e|none=>dflt t)
 |[],_,_,_,_=>rfl
 |x::l,seen,t,hp,hs=>by
  simp only[fk,bS];cases e:Nat.beq x.1 t with
  |true=>
   have e':=dF e;rw[e',hp,hs];simp only[Bool.not_false,Bool.and_self,cond_true];cases hi:ox t x.2 with
   |true=>simp only[cond_true];rw[JO (by rw[rj];exact gd ..)];exact(cM _ _ hi).symm
   |false=>simp only[cond_false,bS,e,cond_true]
  |false=>
   simp only[cond_false];cases hb:(p x.1&& !fU seen x.1) with
   |false=>exact DJ cM hp hs
   |true=>
    have eX:fU (x.1::seen) t=false:=by
      cases hm:fU (x.1::seen) t with
      |false=>rfl
      |true=>
       rcases cW.1 ((rj _ _).1 hm) with h|h
       ·rw[h,mT] at e;cases e
       ·rw[(rj _ _).2 h] at hs;cases hs
    simp only[cond_true];cases ox x.1 x.2 with
    |true=>exact DJ cM hp eX
    |false=>simp only[cond_false,bS,e];exact DJ cM hp eX
def SE.cut (s:SE)(k:Lk):SE:=⟨fk acw (aV k.r) [] s.r,fk acx (fU k.o) [] s.o⟩
def Rr (l:List (Nat×PE)):Lk:=l.foldr (fun x k=>x.2.lk.un k) .none
def SE.lks (s:SE):Lk:=(Rr s.r).un (Rr s.o)
theorem Rs:∀{l:List (Nat×PE)} {t:Nat} {e:PE},bS l t=some e→e.lk.Le (Rr l)
 |[],_,_,h=>by cases h
 |x::l,t,e,h=>by
  simp only[bS] at h;cases hb:Nat.beq x.1 t<;>simp only[hb,cond_true,cond_false] at h
  ·exact(Rs h).trans (Lk.le_r _ _)
  ·cases h;exact Lk.le_l _ _
theorem SE.cut_al {s:SE}{L:Lk}{ρ1 ρ2:Env}(h:Alike (L.un (s.cut L).lks) ρ1 ρ2):Alike L ((s.cut L).ev ρ1) (s.ev ρ2):=by
 have hL:=h.le (Lk.le_l _ _);have hs:=h.le (Lk.le_r _ _);constructor
 ·intro t ht;show(s.getR t).ev ρ2=((s.cut L).getR t).ev ρ1;have e:(s.cut L).getR t=s.getR t:=DJ (dflt:=.r) (fun t e he=>by unfold acw at he;split at he;rw[dF he];cases he) ht rfl;rw[←e];cases hl:bS (s.cut L).r t with
  |none=>have:(s.cut L).getR t=.r t:=by unfold SE.getR;rw[hl]
         rw[this];exact hL.r t ht
  |some x=>have:(s.cut L).getR t=x:=by unfold SE.getR;rw[hl]
           rw[this];exact PE.ev_alike x (hs.le ((Rs hl).trans (Lk.le_l _ _)))
 ·intro t ht;show(s.getO t).ev ρ2=((s.cut L).getO t).ev ρ1;have e:(s.cut L).getO t=s.getO t:=DJ (dflt:=.o) (fun t e he=>by unfold acx at he;split at he;rw[dF he];cases he) ((rj _ _).2 ht) rfl;rw[←e];cases hl:bS (s.cut L).o t with
  |none=>have:(s.cut L).getO t=.o t:=by unfold SE.getO;rw[hl]
         rw[this];exact hL.o t ht
  |some x=>have:(s.cut L).getO t=x:=by unfold SE.getO;rw[hl]
           rw[this];exact PE.ev_alike x (hs.le ((Rs hl).trans (Lk.le_r _ _)))
structure LC where
 next:Lk
 ov:List (Nat×Lk)
def LC.all (c:LC):Lk:=c.ov.foldr (fun x k=>x.2.un k) .none
def N8 (c:LC)(Q1 Q2:Out→Prop):Prop:=
 (∀ρ1 ρ2,Alike c.next ρ1 ρ2→Q1 (.next ρ1)→Q2 (.next ρ2))∧(∀id k ρ1 ρ2,bS c.ov id=some k→Alike k ρ1 ρ2→Q1 (.exit id ρ1)→Q2 (.exit id ρ2))∧∀d,Q1 (.ret d)→Q2 (.ret d)
def fV:LC→PT→Option (PT×Lk)
 |c,.next s=>some (.next (s.cut c.next),c.next.un (s.cut c.next).lks)
 |c,.exit id s=>(bS c.ov id).map fun k=>(.exit id (s.cut k),k.un (s.cut k).lks)
 |_,.ret e=>some (.ret e,e.lk)
 |c,.chk e k=>(fV c k).map fun r=>(.chk e r.1,e.lk.un r.2)
 |c,.ite e a b=>(fV c a).bind fun x=>(fV c b).map fun y=>(.ite e x.1 y.1,e.lk.un (x.2.un y.2))
 |c,.call s gs dst f args k=>(fV c k).map fun r=>(.call (s.cut (r.2.un (mi gs))) gs dst f args r.1,(PE.lks args).un ((r.2.un (mi gs)).un (s.cut (r.2.un (mi gs))).lks))
 |c,.callc s gs dst e args k=>(fV c k).map fun r=>(.callc (s.cut (r.2.un (mi gs))) gs dst e args r.1,(e.lk.un (PE.lks args)).un ((r.2.un (mi gs)).un (s.cut (r.2.un (mi gs))).lks))
 |c,.mcall s j f args k=>(fV c k).map fun r=>(.mcall (s.cut r.2) j f args r.1,(PE.lks args).un (r.2.un (s.cut r.2).lks))
 |c,.iteS s e lr lo a b k=>(fV c k).bind fun r=>(fV ⟨r.2,c.ov⟩ a).bind fun x=>(fV ⟨r.2,c.ov⟩ b).map fun y=>
    (.iteS (s.cut (r.2.un (x.2.un y.2))) e lr lo x.1 y.1 r.1,e.lk.un ((r.2.un (x.2.un y.2)).un (s.cut (r.2.un (x.2.un y.2))).lks))
 |c,.blockS s id lr lo a k=>(fV c k).bind fun r=>(fV ⟨r.2,(id,r.2)::c.ov⟩ a).map fun x=>(.blockS (s.cut (r.2.un x.2)) id lr lo x.1 r.1,(r.2.un x.2).un (s.cut (r.2.un x.2)).lks)
 |c,.brk s p k=>(fV c k).bind fun r=>bif nY (c.ov.map (·.1)) p then some (.brk (s.cut (p.lk.un (r.2.un c.all))) p r.1,(p.lk.un (r.2.un c.all)).un (s.cut (p.lk.un (r.2.un c.all))).lks) else none
theorem LC.all_le:∀{l:List (Nat×Lk)} {id:Nat} {k:Lk},bS l id=some k→k.Le (l.foldr (fun x k=>x.2.un k) .none)
 |[],_,_,h=>by cases h
 |x::l,t,e,h=>by
  simp only[bS] at h;cases hb:Nat.beq x.1 t<;>simp only[hb,cond_true,cond_false] at h
  ·exact(LC.all_le h).trans (Lk.le_r _ _)
  ·cases h;exact Lk.le_l _ _
theorem acP:∀{l:List (Nat×Lk)} {id:Nat},id∈l.map (·.1)→∃k,bS l id=some k
 |[],_,h=>by cases h
 |x::l,id,h=>by
  simp only[bS];cases hb:Nat.beq x.1 id with
  |true=>exact⟨_,rfl⟩
  |false=>
   simp only[cond_false];rcases cW.1 h with e|h
   ·rw[e,mT] at hb;cases hb
   ·exact acP h
theorem auz {T:cL}:∀(t:PT) {c:LC} {t':PT} {L:Lk},fV c t=some (t',L)→∀{Q1 Q2:Out→Prop} {ρ1 ρ2:Env},N8 c Q1 Q2→Alike L ρ1 ρ2→aK T t' ρ1 Q1→aK T t ρ2 Q2:=by
 intro t
 induction t with
 |next s=>
  intro c t' L hp Q1 Q2 ρ1 ρ2 hQ hA h;simp only[fV,bx,nV] at hp;obtain⟨rfl,rfl⟩:=hp;exact hQ.1 _ _ (SE.cut_al hA) h
 |exit id s=>
  intro c t' L hp Q1 Q2 ρ1 ρ2 hQ hA h;simp only[fV,aR,nV] at hp;obtain⟨k,hk,rfl,rfl⟩:=hp;exact hQ.2.1 _ k _ _ hk (SE.cut_al hA) h
 |ret e=>
  intro c t' L hp Q1 Q2 ρ1 ρ2 hQ hA h;simp only[fV,bx,nV] at hp;obtain⟨rfl,rfl⟩:=hp;show Q2 (.ret (e.ev ρ2));rw[PE.ev_alike e hA];exact hQ.2.2 _ h
 |chk e k ih=>
  intro c t' L hp Q1 Q2 ρ1 ρ2 hQ hA h;simp only[fV,aR,nV] at hp;obtain⟨r,hr,rfl,rfl⟩:=hp;exact⟨by rw[PE.ev_alike e (hA.le (Lk.le_l _ _))];exact h.1,ih hr hQ (hA.le (Lk.le_r _ _)) h.2⟩
 |ite e a b bO eC=>
  intro c t' L hp Q1 Q2 ρ1 ρ2 hQ hA h;simp only[fV,aG,aR,nV] at hp;obtain⟨x,hx,y,hy,rfl,rfl⟩:=hp;have h2:=hA.le (Lk.le_r _ _);simp only[aK] at h ⊢;rw[PE.ev_alike e (hA.le (Lk.le_l _ _))];split
  ·rename_i hc;rw[if_pos hc] at h;exact bO hx hQ (h2.le (Lk.le_l _ _)) h
  ·rename_i hc;rw[if_neg hc] at h;exact eC hy hQ (h2.le (Lk.le_r _ _)) h
 |call s gs dst f args k ih=>
  intro c t' L hp Q1 Q2 ρ1 ρ2 hQ hA h;simp only[fV,aR,nV] at hp;obtain⟨r,hr,rfl,rfl⟩:=hp;have hS:=SE.cut_al (hA.le (Lk.le_r _ _));simp only[aK] at h ⊢;rw[PE.evs_alike args (hA.le (Lk.le_l _ _)),AW (hS.le (Lk.le_r _ _))];split
  ·rename_i hc;rw[if_pos hc] at h;obtain⟨d,hd,h⟩:=h;exact⟨d,hd,ih hr hQ ((hS.le (Lk.le_l _ _)).setR dst d) h⟩
  ·rename_i hc;rw[if_neg hc] at h;exact ih hr hQ (hS.le (Lk.le_l _ _)) h
 |callc s gs dst e args k ih=>
  intro c t' L hp Q1 Q2 ρ1 ρ2 hQ hA h;simp only[fV,aR,nV] at hp;obtain⟨r,hr,rfl,rfl⟩:=hp;have hS:=SE.cut_al (hA.le (Lk.le_r _ _));have hE:=hA.le (Lk.le_l _ _);simp only[aK] at h ⊢;rw[PE.ev_alike e (hE.le (Lk.le_l _ _)),PE.evs_alike args (hE.le (Lk.le_r _ _)),AW (hS.le (Lk.le_r _ _))];split
  ·rename_i hc;rw[if_pos hc] at h;obtain⟨f,caps,d,he,hd,h⟩:=h;exact⟨f,caps,d,he,hd,ih hr hQ ((hS.le (Lk.le_l _ _)).setR dst d) h⟩
  ·rename_i hc;rw[if_neg hc] at h;exact ih hr hQ (hS.le (Lk.le_l _ _)) h
 |mcall s j f args k ih=>
  intro c t' L hp Q1 Q2 ρ1 ρ2 hQ hA h;simp only[fV,aR,nV] at hp;obtain⟨r,hr,rfl,rfl⟩:=hp;have hS:=SE.cut_al (hA.le (Lk.le_r _ _));simp only[aK] at h ⊢;rw[PE.evs_alike args (hA.le (Lk.le_l _ _))];obtain⟨d,hd,h⟩:=h;exact⟨d,hd,ih hr hQ (hS.setO j d) h⟩
 |iteS s e lr lo a b k bO eC ky=>
  intro c t' L hp Q1 Q2 ρ1 ρ2 hQ hA h;simp only[fV,aG,aR,nV] at hp;obtain⟨r,hr,x,hx,y,hy,rfl,rfl⟩:=hp;have hS:=SE.cut_al (hA.le (Lk.le_r _ _));have J4:=hS.le (Lk.le_l _ _);have DR:=hS.le ((Lk.le_l _ _).trans (Lk.le_r _ _));have hSy:=hS.le ((Lk.le_r _ _).trans (Lk.le_r _ _))
  have rel:N8 ⟨r.2,c.ov⟩ (kW ((s.cut (r.2.un (x.2.un y.2))).ev ρ1) lr lo (g8 (fun ρ'=>aK T r.1 ρ' Q1) Q1)) (kW (s.ev ρ2) lr lo (g8 (fun ρ'=>aK T k ρ' Q2) Q2)):=
   ⟨fun η1 η2 ha hq=>ky hr hQ (J4.join ha lr lo) hq,fun id k' η1 η2 hk ha hq=>hQ.2.1 id k' _ _ hk ha hq,fun d hq=>hQ.2.2 d hq⟩
  simp only[aK] at h ⊢;rw[PE.ev_alike e (hA.le (Lk.le_l _ _))];split
  ·rename_i hc;rw[if_pos hc] at h;exact bO hx rel DR h
  ·rename_i hc;rw[if_neg hc] at h;exact eC hy rel hSy h
 |blockS s id lr lo a k bO ky=>
  intro c t' L hp Q1 Q2 ρ1 ρ2 hQ hA h;simp only[fV,aG,aR,nV] at hp;obtain⟨r,hr,x,hx,rfl,rfl⟩:=hp;have hS:=SE.cut_al hA;have J4:=hS.le (Lk.le_l _ _);refine bO hx (Q1:=me ((s.cut (r.2.un x.2)).ev ρ1) id lr lo (g8 (fun ρ'=>aK T r.1 ρ' Q1) Q1)) ⟨fun η1 η2 ha hq=>ky hr hQ (J4.join ha lr lo) hq,fun cg k' η1 η2 hk ha hq=>?_,fun d hq=>hQ.2.2 d hq⟩ (hS.le (Lk.le_r _ _)) h;simp only[me] at hq ⊢;simp only[bS] at hk;by_cases e:cg=id
  ·subst e;simp only[mT,cond_true,bx] at hk;subst hk;rw[if_pos rfl] at hq ⊢;exact ky hr hQ (J4.join ha lr lo) hq
  ·rw[if_neg e] at hq ⊢;rw[gA (fun h=>e h.symm),cond_false] at hk;exact hQ.2.1 cg k' _ _ hk ha hq
 |brk s p k ky=>
  intro c t' L hp Q1 Q2 ρ1 ρ2 hQ hA h;simp only[fV,aG] at hp;obtain⟨r,hr,hp⟩:=hp;cases hx:nY (c.ov.map (·.1)) p<;>simp only[hx,cond_true,cond_false,bx,nV] at hp
  ·cases hp
  obtain⟨rfl,rfl⟩:=hp;have hS:=SE.cut_al hA;have jt:Off (p.lk.un (r.2.un c.all)) (s.ev ρ2) ((s.cut (p.lk.un (r.2.un c.all))).ev ρ1) (s.ev ρ2):=⟨hS,fun _ _=>rfl,fun _ _=>rfl⟩
  obtain⟨x,hq,n0,hn⟩:=h;have step:=fun n (hle:n0≤n)=>PC.ev_off p (Lk.le_l _ _) jt (hn n hle);obtain⟨x',h1,h2⟩:=step n0 (bK _);refine⟨x',?_,n0,fun n hle=>?_⟩
  ·cases x with
   |next η=>obtain⟨η',rfl,h3⟩:=h2;exact ky hr hQ (h3.al.le ((Lk.le_l _ _).trans (Lk.le_r _ _))) hq
   |exit i η=>
    obtain⟨η',rfl,h3⟩:=h2;obtain⟨k',bo⟩:=acP (amf p hx (hn n0 (bK _)));exact hQ.2.1 i k' _ _ bo (h3.al.le ((LC.all_le bo).trans ((Lk.le_r _ _).trans (Lk.le_r _ _)))) hq
   |ret d=>cases h2;exact hQ.2.2 d hq
  ·obtain⟨x2,h3,h4⟩:=step n hle;rw[h3,h2.uniq h4]
def E8 (c:LC)(t:PT):PT:=match fV c t with|some r=>r.1|none=>t
theorem LO {T:cL}{c:LC}{t:PT}{Q:Out→Prop}{ρ:Env}(hQ:N8 c Q Q)(h:aK T (E8 c t) ρ Q):aK T t ρ Q:=by
 unfold E8 at h;split at h
 ·rename_i r hr;exact auz t hr hQ ⟨fun _ _=>rfl,fun _ _=>rfl⟩ h
 ·exact h
def ah1 (c:PC):PT:=sx c [] .id (fun _ s=>.next s) (fun _ id s=>.exit id s)
theorem ah2 {T:cL}{c:PC}{ρ:Env}{Q:Out→Prop}(h:aK T (ah1 c) ρ Q):aL T c ρ Q:=
 Nb (s:=.id) c (cn.ok_nil _) h (fun ρ' aj s _ _ h=>h) (fun ρ' aj id s _ _ h=>h) (fun _ _ _ h=>h) (fun _ h=>h)
def tree (c:PC):PT:=E8 ⟨.none,[]⟩ (ah1 c)
theorem Nx {T:cL}{c:PC}{ρ:Env}{d:D}(h:aK T (tree c) ρ fun x=>x=.ret d):aL T c ρ fun x=>x=.ret d:=
 ah2 (LO ⟨fun _ _ _ h=>(by cases h),fun _ _ _ _ _ _ h=>(by cases h),fun _ h=>h⟩ h)
def SE.keep (s:SE)(lr lo:List Nat):SE:=⟨lr.map fun t=>(t,s.getR t),lo.map fun t=>(t,s.getO t)⟩
theorem SE.keep_r (s:SE)(lr lo:List Nat)(ρ:Env):lr.map ((s.keep lr lo).ev ρ).r=lr.map (s.ev ρ).r:=by
 apply yO;intro t ht;show((s.keep lr lo).getR t).ev ρ=(s.getR t).ev ρ;have:=xF (f:=fun t=>s.getR t) (l:=[]) (u:=t) lr;rw[rW,if_pos ht] at this;have e:(s.keep lr lo).getR t=s.getR t:=by unfold SE.getR SE.keep;simp only[];rw[this];rfl
 rw[e]
theorem SE.keep_o (s:SE)(lr lo:List Nat)(ρ:Env):lo.map ((s.keep lr lo).ev ρ).o=lo.map (s.ev ρ).o:=by
 apply yO;intro t ht;show((s.keep lr lo).getO t).ev ρ=(s.getO t).ev ρ;have:=xF (f:=fun t=>s.getO t) (l:=[]) (u:=t) lo;rw[rW,if_pos ht] at this;have e:(s.keep lr lo).getO t=s.getO t:=by unfold SE.getO SE.keep;simp only[];rw[this];rfl
 rw[e]
def ahw (id:Nat)(bM bL lr lo:List Nat)(a:PC):PT:=
 sx a [] .id (fun _ s=>.next (s.keep lr lo)) (fun _ cg s=>bif Nat.beq cg id then .exit id (s.keep bM bL) else .exit cg s)
def fA (ρ:Env)(id:Nat)(bM bL lr lo:List Nat)(K:List D→List D→Prop)(Q:Out→Prop):Out→Prop
 |.next ρ'=>K (lr.map ρ'.r) (lo.map ρ'.o)
 |.exit cg ρ'=>if cg=id then Q (.next (ρ.put bM (bM.map ρ'.r) bL (bL.map ρ'.o))) else Q (.exit cg ρ')
 |.ret d=>Q (.ret d)
def round (id:Nat)(bM bL lr lo:List Nat)(a:PC):PT:=E8 ⟨⟨bits lr,lo⟩,[(id,⟨bits bM,bL⟩)]⟩ (ahw id bM bL lr lo a)
theorem ac6 {k:Lk}{lr:List Nat}{ρ1 ρ2:Env}(h:Alike k ρ1 ρ2)(hk:∀t,t∈lr→aV k.r t=true):lr.map ρ2.r=lr.map ρ1.r:=yO fun t ht=>h.r t (hk t ht)
theorem KY {k:Lk}{lo:List Nat}{ρ1 ρ2:Env}(h:Alike k ρ1 ρ2)(hk:∀t,t∈lo→t∈k.o):lo.map ρ2.o=lo.map ρ1.o:=yO fun t ht=>h.o t (hk t ht)
theorem avX {T:cL}{id:Nat}{bM bL lr lo:List Nat}{a:PC}{ρ ρ0:Env}{K:List D→List D→Prop}{Q:Out→Prop}(h:aK T (round id bM bL lr lo a) ρ (fA ρ0 id bM bL lr lo K Q)):aK T (ahw id bM bL lr lo a) ρ (fA ρ0 id bM bL lr lo K Q):=by
 refine LO ⟨fun ρ1 ρ2 ha hq=>?_,fun cg k ρ1 ρ2 hk ha hq=>?_,fun d hq=>hq⟩ h
 ·simp only[fA] at hq ⊢;rw[ac6 ha fun t ht=>Pb ht,KY ha fun t ht=>ht];exact hq
 ·simp only[bS] at hk;cases hb:Nat.beq id cg<;>simp only[hb,cond_true,cond_false] at hk
  ·cases hk
  ·cases hk;have:=dF hb;subst this;simp only[fA,if_true] at hq ⊢;rw[ac6 ha fun t ht=>Pb ht,KY ha fun t ht=>ht];exact hq
theorem aL.forLoop {T:cL}{id:Nat}{bM bL lr lo:List Nat}{a:PC}{ρ:Env}{Q:Out→Prop}{α:Type}(inv:α→List D→List D→Prop)(vd:α→Nat)(s0:α)(h0:inv s0 (lr.map ρ.r) (lo.map ρ.o))
 (step:∀s vr vo,inv s vr vo→aK T (round id bM bL lr lo a) (ρ.put lr vr lo vo) (fA ρ id bM bL lr lo (fun vr vo=>∃s',vd s'<vd s∧inv s' vr vo) Q)):aL T (.block id bM bL (.loop lr lo a)) ρ Q:=by
 refine .block (.loop inv vd s0 h0 fun s vr vo hi=>?_);have h:=avX (step s vr vo hi);refine Nb (s:=.id) a (cn.ok_nil _) h (fun ρ' aj s' _ _ h=>?_) (fun ρ' aj cg s' _ _ h=>?_) (fun _ cg ρ' h=>?_) (fun d h=>h)
 ·simp only[aK,fA] at h;rw[SE.keep_r,SE.keep_o] at h;exact h
 ·simp only[g8,me];by_cases cM:cg=id
  ·subst cM;simp only[mT,cond_true,aK,fA,if_true] at h;rw[SE.keep_r,SE.keep_o] at h;rw[if_pos rfl];exact h
  ·rw[gA cM,cond_false] at h;simp only[aK,fA] at h;rw[if_neg cM] at h ⊢;exact h
 ·simp only[g8,me];simp only[fA] at h;split
  ·rename_i e;rw[if_pos e] at h;exact h
  ·rename_i e;rw[if_neg e] at h;exact h
def ahx (lo:List Nat)(a:PC):PT:=sx a [] .id (fun _ s=>.next (s.keep [] lo)) (fun _ id s=>.exit id (s.keep [] lo))
def qq (lo:List Nat)(a:PC):PT:=E8 ⟨⟨0,lo⟩,[(cT,⟨0,lo⟩)]⟩ (ahx lo a)
theorem ahy {T:cL}{lo:List Nat}{a:PC}{ρ:Env}{Q:Out→Prop}(hn:∀ρ1 ρ2,lo.map ρ2.o=lo.map ρ1.o→Q (.next ρ1)→Q (.next ρ2))(hx:∀ρ1 ρ2,lo.map ρ2.o=lo.map ρ1.o→Q (.exit cT ρ1)→Q (.exit cT ρ2))(h:aK T (qq lo a) ρ Q):aK T (ahx lo a) ρ Q:=by
 refine LO ⟨fun ρ1 ρ2 ha hq=>hn ρ1 ρ2 (KY ha fun t ht=>ht) hq,fun cg k ρ1 ρ2 hk ha hq=>?_,fun d hq=>hq⟩ h;simp only[bS] at hk;cases hb:Nat.beq cT cg<;>simp only[hb,cond_true,cond_false] at hk
 ·cases hk
 ·cases hk;have:=dF hb;subst this;exact hx ρ1 ρ2 (KY ha fun t ht=>ht) hq
theorem aL.eachR {T:cL}{e:PE}{ps lo:List Nat}{rt:Option PE}{a:PC}{ρ:Env}{Q:Out→Prop}(xs:List D)(he:(e.ev ρ).l=xs)(inv:Nat→List D→Prop)(h0:inv 0 (lo.map ρ.o))
 (step:∀k x vo,xs[k]?=some x→inv k vo→aK T (qq lo a) (ρ.put ps (partsOf ps x) lo vo) (uu ρ lo rt (inv (k+1)) Q)) (done:∀vo,inv xs.length vo→Q (.next (ρ.put [] [] lo vo))):aL T (.each e ps lo rt a) ρ Q:=by
 refine .each xs he inv h0 (fun k x vo hx hi=>?_) done;have h:=ahy (fun ρ1 ρ2 e hq=>by simp only[uu] at hq ⊢;rw[e];exact hq) (fun ρ1 ρ2 e hq=>by simp only[uu,if_true] at hq ⊢;rw[e];exact hq) (step k x vo hx hi);refine Nb (s:=.id) a (cn.ok_nil _) h (fun ρ' aj s' _ _ h=>?_) (fun ρ' aj cg s' _ _ h=>?_) (fun _ cg ρ' h=>h) (fun d h=>h)
 ·simp only[aK,uu] at h;rw[SE.keep_o] at h;exact h
 ·simp only[aK,uu] at h;rw[SE.keep_o] at h;exact h
theorem aL.meachR {T:cL}{J:Nat}{ps dk lo:List Nat}{a:PC}{ρ:Env}{Q:Out→Prop}(es:List (D×D))(he:ρ.o J=.tup [.list [],.map es])(inv:List D→List D→Prop)(h0:inv [] (lo.map ρ.o))
 (step:∀done x rest vo,(done++x::rest).Perm (iN (.map es))→inv done vo→aK T (qq lo a) ((ρ.put ps (dk.map x.tget) lo vo).setO J (.tup [.list (done++[x]),.map es])) (fun y=>∃ρ',y=.next ρ'∧inv (done++[x]) (lo.map ρ'.o)))
 (last:∃vo,(∀done,done.Perm (iN (.map es))→∀rP,inv done rP→rP=vo)∧Q (.next (ρ.put [] [] lo vo))):aL T (.meach J ps dk lo a) ρ Q:=by
 refine .meach es he inv h0 (fun done x rest vo hp hi=>?_) last;have h:=ahy (fun ρ1 ρ2 e ⟨ρ',e1,hq⟩=>by cases e1;exact⟨_,rfl,by rw[e];exact hq⟩) (fun ρ1 ρ2 e ⟨ρ',e1,hq⟩=>by cases e1) (step done x rest vo hp hi);refine Nb (s:=.id) a (cn.ok_nil _) h (fun ρ' aj s' _ _ h=>?_) (fun ρ' aj cg s' _ _ h=>?_) (fun _ cg ρ' h=>?_) (fun d h=>?_)
 ·simp only[aK] at h;obtain⟨ρ2,e,h⟩:=h;injection e with e;subst e;rw[SE.keep_o] at h;exact⟨_,rfl,h⟩
 ·simp only[aK] at h;obtain⟨ρ2,e,h⟩:=h;cases e
 ·obtain⟨ρ2,e,_⟩:=h;cases e
 ·obtain⟨ρ2,e,_⟩:=h;cases e
theorem yS {T:cL}:∀(t:PT) {ρ:Env} {Q Q':Out→Prop},(∀x,Q x→Q' x)→aK T t ρ Q→aK T t ρ Q':=by
 intro t
 induction t with
 |next s=>intro ρ Q Q' h hx;exact h _ hx
 |exit id s=>intro ρ Q Q' h hx;exact h _ hx
 |ret e=>intro ρ Q Q' h hx;exact h _ hx
 |chk e k ih=>intro ρ Q Q' h hx;exact⟨hx.1,ih h hx.2⟩
 |ite c a b bO eC=>
  intro ρ Q Q' h hx;simp only[aK] at hx ⊢;split
  ·rename_i hc;rw[if_pos hc] at hx;exact bO h hx
  ·rename_i hc;rw[if_neg hc] at hx;exact eC h hx
 |call s gs dst f args k ih=>
  intro ρ Q Q' h hx;simp only[aK] at hx ⊢;split
  ·rename_i hc;rw[if_pos hc] at hx;obtain⟨d,hd,hx⟩:=hx;exact⟨d,hd,ih h hx⟩
  ·rename_i hc;rw[if_neg hc] at hx;exact ih h hx
 |callc s gs dst e args k ih=>
  intro ρ Q Q' h hx;simp only[aK] at hx ⊢;split
  ·rename_i hc;rw[if_pos hc] at hx;obtain⟨f,c,d,he,hd,hx⟩:=hx;exact⟨f,c,d,he,hd,ih h hx⟩
  ·rename_i hc;rw[if_neg hc] at hx;exact ih h hx
 |mcall s j f args k ih=>intro ρ Q Q' h hx;obtain⟨d,hd,hx⟩:=hx;exact⟨d,hd,ih h hx⟩
 |iteS s c lr lo a b k bO eC ky=>
  intro ρ Q Q' h hx
  have hq:∀x,kW (s.ev ρ) lr lo (g8 (fun ρ'=>aK T k ρ' Q) Q) x→kW (s.ev ρ) lr lo (g8 (fun ρ'=>aK T k ρ' Q') Q') x:=by
   intro x hx;cases x with
   |next ρ'=>exact ky h hx
   |exit id ρ'=>exact h _ hx
   |ret d=>exact h _ hx
  simp only[aK] at hx ⊢;split
  ·rename_i hc;rw[if_pos hc] at hx;exact bO hq hx
  ·rename_i hc;rw[if_neg hc] at hx;exact eC hq hx
 |blockS s id lr lo a k bO ky=>
  intro ρ Q Q' h hx;refine bO (fun x hx=>?_) hx;cases x with
  |next ρ'=>exact ky h hx
  |exit cg ρ'=>
   simp only[me] at hx ⊢;split
   ·rename_i e;rw[if_pos e] at hx;exact ky h hx
   ·rename_i e;rw[if_neg e] at hx;exact h _ hx
  |ret d=>exact h _ hx
 |brk s c k ih=>
  intro ρ Q Q' h hx;refine aL.mono hx fun x hx=>?_;cases x with
  |next ρ'=>exact ih h hx
  |exit id ρ'=>exact h _ hx
  |ret d=>exact h _ hx
theorem aL.forRounds {T:cL}{id:Nat}{bM bL lr lo:List Nat}{a:PC}{ρ:Env}{Q:Out→Prop}(N:Nat)(str fK:Nat→List D)(h0:lr.map ρ.r=str 0∧lo.map ρ.o=fK 0)
 (step:∀k,k<N→aK T (round id bM bL lr lo a) (ρ.put lr (str k) lo (fK k)) (fA ρ id bM bL lr lo (fun vr vo=>vr=str (k+1)∧vo=fK (k+1)) Q))
 (last:aK T (round id bM bL lr lo a) (ρ.put lr (str N) lo (fK N)) (fA ρ id bM bL lr lo (fun _ _=>False) Q)):aL T (.block id bM bL (.loop lr lo a)) ρ Q:=by
 refine .forLoop (α:=Nat) (fun k vr vo=>k≤N∧vr=str k∧vo=fK k) (fun k=>N-k) 0 ⟨yQ _,h0.1,h0.2⟩ ?_;rintro k vr vo ⟨hk,rfl,rfl⟩;have mono:∀{K K':List D→List D→Prop},(∀a b,K a b→K' a b)→∀x,fA ρ id bM bL lr lo K Q x→fA ρ id bM bL lr lo K' Q x:=by
  intro K K' h x hx;cases x with
  |next ρ'=>exact h _ _ hx
  |exit cg ρ'=>exact hx
  |ret d=>exact hx
 by_cases ar:k<N
 ·exact yS _ (mono fun a b ⟨h1,h2⟩=>⟨k+1,by omega,by omega,h1,h2⟩) (step k ar)
 ·obtain rfl:k=N:=by omega
  exact yS _ (mono fun a b h=>h.elim) last
theorem UX {ρ:Env}{id:Nat}{bM bL lr lo:List Nat}{K K':List D→List D→Prop}{Q:Out→Prop}(h:∀a b,K a b→K' a b):∀x,fA ρ id bM bL lr lo K Q x→fA ρ id bM bL lr lo K' Q x:=by
 intro x hx;cases x with
 |next ρ'=>exact h _ _ hx
 |exit cg ρ'=>exact hx
 |ret d=>exact hx
theorem aL.scan {T:cL}{id:Nat}{bM bL lr lo:List Nat}{a:PC}{ρ:Env}{Q:Out→Prop}(N:Nat)(ok:Nat→Prop)(str fK:Nat→List D)(h0:lr.map ρ.r=str 0∧lo.map ρ.o=fK 0)
 (step:∀k,k<N→(∀j,j<k→ok j)→ok k→aK T (round id bM bL lr lo a) (ρ.put lr (str k) lo (fK k)) (fA ρ id bM bL lr lo (fun vr vo=>vr=str (k+1)∧vo=fK (k+1)) Q))
 (bad:∀k,k<N→(∀j,j<k→ok j)→¬ok k→aK T (round id bM bL lr lo a) (ρ.put lr (str k) lo (fK k)) (fA ρ id bM bL lr lo (fun _ _=>False) Q))
 (last:(∀j,j<N→ok j)→aK T (round id bM bL lr lo a) (ρ.put lr (str N) lo (fK N)) (fA ρ id bM bL lr lo (fun _ _=>False) Q)):aL T (.block id bM bL (.loop lr lo a)) ρ Q:=by
 refine .forLoop (α:=Nat) (fun k vr vo=>k≤N∧(∀j,j<k→ok j)∧vr=str k∧vo=fK k) (fun k=>N-k) 0 ⟨yQ _,fun j hj=>by omega,h0.1,h0.2⟩ ?_;rintro k vr vo ⟨hk,hj,rfl,rfl⟩;by_cases ar:k<N
 ·by_cases aB:ok k
  ·refine yS _ (UX fun a b ⟨h1,h2⟩=>⟨k+1,by omega,by omega,fun j Kl=>?_,h1,h2⟩) (step k ar hj aB);by_cases e:j=k
   ·subst e;exact aB
   ·exact hj j (by omega)
  ·exact yS _ (UX fun a b h=>h.elim) (bad k ar hj aB)
 ·obtain rfl:k=N:=by omega
  exact yS _ (UX fun a b h=>h.elim) (last hj)
def ah (n:Nat)(e:PE):PE:=.mk ((List.range n).map fun i=>.cell e i)
def kg (n:Nat)(d:D):D:=.agg ((List.range n).flatMap fun i=>(d.c i).cells)
theorem amd (ρ:Env)(n:Nat)(e:PE):(ah n e).ev ρ=kg n (e.ev ρ):=by
 have key:∀l:List Nat,PE.evc ρ (l.map fun i=>.cell e i)=l.flatMap fun i=>((e.ev ρ).c i).cells:=by
  intro l
  induction l with
  |nil=>rfl
  |cons i l ih=>simp only[jN,PE.evc,PE.ev,Co,ih]
 show D.agg _=_;rw[key];rfl
end Cx
