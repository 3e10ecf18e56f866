import Derived.Test.YtbagcfebdgiihaaGreatDoorAAF
import Derived.Below
import Derived.ChangeSame
import Derived.WalkKit
import Derived.ProofKit
import Derived.OpenShut
import Derived.Carry
import Derived.JoinedCond
noncomputable section
set_option linter.all false
namespace Cx
open Go Go.RowKit Go.ChangeShapes Go.WideShapes
def oQ (w:World):Im:=
 ⟨λk o=>w.cell? ⟨k,o,none⟩,λ_=>none⟩
def awP (w:World):(oQ w).ok w:=by
 exact⟨λk o v h=>h,λk es h=>by cases h⟩
def Ed (P:Program)(r:TypeId->Option Ty):List Field->Nat->Option (List Ty)
 |[],_=>some []
 |f::fs,off=>(r f.type).bind λft=>
  bif Nat.beq f.offset off&&Nat.beq (P.cellsOf f.type) ft.flat.length then(Ed P r fs (off+ft.flat.length)).map (ft.flat++·) else none
def gL (P:Program):Nat->TypeId->Option Ty
 |0,_=>none
 |n+1,t=>
  match P.underlying t with
  |some .bool=>some .bool
  |some (.int k)=>some (.int k)
  |some .string=>some .str
  |some (.slice e)=>bif uW P e then some (.slice .trm) else(gL P n e).bind λte=>bif Nat.beq (P.cellsOf e) te.flat.length&&Nat.ble 1 te.flat.length then some (.slice te) else none
  |some (.struct fs)=>(Ed P (gL P n) fs.toList 0).bind λts=>bif Nat.beq (P.cellsOf t) ts.length then some (.agg ts) else none
  |_=>none
def awW {P:Program}{e:TypeId}(h:uW P e=true)(n:Nat):gL P (n+2) e=some .trmA/\P.cellsOf e=3:=by
 unfold uW at h;split at h
 case h_2=>cases h
 rename_i fs hu;split at h
 case h_2=>cases h
 rename_i f0 f1 f2 zE;simp only[aA] at h;obtain⟨⟨⟨⟨⟨⟨⟨⟨⟨h0,h1⟩,h2⟩,o0⟩,o1⟩,o2⟩,c0⟩,c1⟩,c2⟩,c3⟩:=h;split at h0
 case h_2=>cases h0
 rename_i u0;split at h1
 case h_2=>cases h1
 rename_i u1;split at h2
 case h_2=>cases h2
 rename_i e' u2;obtain rfl:=aK h2;have r0:gL P (n+1) f0.type=some (.int .i64):=by simp[gL,u0]
 have r1:gL P (n+1) f1.type=some (.int .i64):=by simp[gL,u1]
 have ht:uW P e'=true:=by
  unfold uW;rw[hu];simp only[zE];simp[u0,u1,u2,aK o0,aK o1,aK o2,aK c0,aK c1,aK c2,aK c3]
 have r2:gL P (n+1) f2.type=some (.slice .trm):=by simp[gL,u2,ht]
 refine⟨?_,aK c3⟩;show gL P (n+1+1) e'=_;rw[gL,hu];simp only[zE,Ed,r0,r1,r2,yP,Ty.flat,nM,sc,o0,c0,Bool.and_self,zyv];simp[aK o1,aK o2,aK c1,aK c2,aK c3,Ty.trmA]
def ZL {P:Program}{n:Nat}{t:TypeId}{ty:Ty}(h:gL P n t=some ty):ty.rowT=true\/ty.one=true:=by
 cases n with
 |zero=>simp[gL] at h
 |succ n=>
  simp only[gL] at h;split at h
  .cases h;exact .inr rfl
  .cases h;exact .inr rfl
  .cases h;exact .inr rfl
  .rename_i e _;cases ht:uW P e<;>simp only[ht,zyv,zyu] at h
   .simp only[aJ] at h;obtain⟨te,_,h⟩:=h;cases hb:(Nat.beq (P.cellsOf e) te.flat.length&&Nat.ble 1 te.flat.length)<;>simp only[hb,zyv,zyu] at h
    .cases h
    .cases h;exact .inr rfl
   .cases h;exact .inr rfl
  .rename_i fs _;simp only[aJ] at h;obtain⟨ts,_,h⟩:=h;cases hb:Nat.beq (P.cellsOf t) ts.length<;>simp only[hb,zyv,zyu] at h
   .cases h
   .cases h;exact .inl rfl
  .cases h
def nQ (cap:Nat->Option CSig)(H:Im)(ts:List Ty)(cs:List Value)(ds:List D):Prop:=
 cs.length=ts.length/\ds.length=ts.length/\∀(i:Nat) (u:Ty),ts[i]?=some u->Rep cap H u (cs.getD i undef) (ds.getD i .none)/\u.one=true
def nQ.one {cap:Nat->Option CSig}{H:Im}{t:Ty}{v:Value}{d:D}(h:Rep cap H t v d)(ht:t.one=true):nQ cap H [t] [v] [d]:=
 ⟨rfl,rfl,λi u hu=>by
   cases i with
   |zero=>simp at hu;subst hu;exact⟨h,ht⟩
   |succ i=>simp at hu⟩
def nQ.append {cap:Nat->Option CSig}{H:Im}{ts us:List Ty}{cs vs:List Value}{ds es:List D}(h:nQ cap H ts cs ds)(k:nQ cap H us vs es):nQ cap H (ts++us) (cs++vs) (ds++es):=by
 obtain⟨h1,h2,h3⟩:=h;obtain⟨k1,k2,k3⟩:=k;refine⟨by simp[h1,k1],by simp[h2,k2],λi u hu=>?_⟩;by_cases hi:i<ts.length
 .rw[tW hi] at hu;have:=h3 i u hu;rw[bn,bn,tW (by omega),tW (by omega)];rw[bn,bn] at this;exact this
 .rw[rY (by omega)] at hu;have:=k3 _ u hu;rw[bn,bn,rY (by omega),rY (by omega),h1,h2];rw[bn,bn] at this;exact this
def afg (ag:Bool)(ds:List D):D:=if ag then .agg ds else ds.getD 0 .none
def ar8 (t:Ty):t.flat.length=t.size:=by cases t<;>rfl
def Rep.ofRow {cap:Nat->Option CSig}{H:Im}{t:Ty}{cs:List Value}{ds:List D}(iV:t.rowT=true\/t.one=true)(h:nQ cap H t.flat cs ds):Rep cap H t (Cx.rowOf t.rowT cs) (afg t.rowT ds):=by
 obtain⟨h1,h2,h3⟩:=h;cases t with
 |agg ts=>exact .agg ts cs ds h1 h2 (λi u hu=>(h3 i u hu).1) (λi u hu=>(h3 i u hu).2)
 |trm=>simp[Ty.rowT,Ty.one] at iV
 |_=>exact(h3 0 _ rfl).1
def aCg {cap:Nat->Option CSig}{H:Im}{t:Ty}{cs:List Value}{ds:List D}(iV:t.rowT=true\/t.one=true)(h:nQ cap H t.flat cs ds){j:Nat}{u:Value}(hj:(rowOf t.rowT cs).cells[j]?=some u):cs[j]?=some u:=by
 obtain⟨h1,h2,h3⟩:=h;cases t with
 |agg ts=>simpa [rowOf,Ty.rowT,Value.cells] using hj
 |trm=>simp[Ty.rowT,Ty.one] at iV
 |_=>
  have h4:=h3 0 _ rfl;have h5:=(h4.1.oneCell h4.2).1;simp only[rowOf,Ty.rowT,A3,if_false] at hj;rw[h5] at hj;cases j with
  |zero=>
   simp only[JS,Rx,bx] at hj
   match cs,h1 with
   |[c],_=>simpa using hj
  |succ j=>simp at hj
section
variable {zyz:Type} {enc:TypeId×Value->zyz} {P:Program} {w:World} {base:Nat} {held:Bool} {cap:Nat->Option CSig}
def aox {k:IntKind}{n:Int}(h:(Lit.int k n).wf=true):k.min<=n/\n<=k.max:=by
 simpa [Lit.wf] using h
def ana {n m:Nat}(ih:∀(t:TypeId) (cs:List Value) (x:DataW zyz×List MemPlace) (ty:Ty),DataW.trod enc P w base (λ_=>true) held n t cs=some x->gL P m t=some ty->∃ds,nQ cap (oQ w) ty.flat cs ds):
 ∀(fs:List Field) (off:Nat) (cs:List Value) (ts:List Ty),Ed P (gL P m) fs off=some ts->cs.length=off+ts.length->
  (∀f,f∈fs->∃x,DataW.trod enc P w base (λ_=>true) held n f.type ((cs.drop f.offset).take (P.cellsOf f.type))=some x)->∃ds,nQ cap (oQ w) ts (cs.drop off) ds
 |[],off,cs,ts,h,hl,_=>by
  simp only[Ed,bx] at h;subst h;have:cs.drop off=[]:=by simp at hl ⊢;omega
  rw[this];exact⟨[],rfl,rfl,λi u hu=>by simp at hu⟩
 |f::fs,off,cs,ts,h,hl,hx=>by
  simp only[Ed,aJ] at h;obtain⟨ft,hft,h⟩:=h;cases hb:(Nat.beq f.offset off&&Nat.beq (P.cellsOf f.type) ft.flat.length)<;>simp only[hb,zyv,zyu] at h
  .cases h
  simp only[aT] at h;obtain⟨us,G5,rfl⟩:=h;simp only[aA] at hb;have e1:=dP hb.1;have e2:=dP hb.2;obtain⟨x,jQ⟩:=hx f (gy ..);rw[e1,e2] at jQ;obtain⟨FN,p5⟩:=ih _ _ _ _ jQ hft;simp only[nL] at hl;obtain⟨ds2,xb⟩:=ana ih fs (off+ft.flat.length) cs us G5 (by omega) λg hg=>hx g (fY _ hg);refine⟨FN++ds2,?_⟩;have:=p5.append xb;rw[<-List.drop_drop,RB] at this;exact this
def aGX:∀(n m:Nat) (t:TypeId) (cs:List Value) (x:DataW zyz×List MemPlace) (ty:Ty),DataW.trod enc P w base (λ_=>true) held n t cs=some x->gL P m t=some ty->∃ds,nQ cap (oQ w) ty.flat cs ds:=by
 intro n
 induction n with
 |zero=>intro m t cs x ty h;simp[DataW.trod] at h
 |succ n ih=>
  intro m t cs x ty h bt;cases m with
  |zero=>simp[gL] at bt
  |succ m=>
   simp only[gL] at bt;split at bt
   .rename_i hu;cases bt;obtain⟨b,rfl,_⟩:=DataW.trod_bool hu h;exact⟨_,.one (.bool b) rfl⟩
   .rename_i k hu;cases bt;obtain⟨z,rfl,_,hw⟩:=DataW.trod_int hu h;exact⟨_,.one (.int k z (aox hw).1 (aox hw).2) rfl⟩
   .rename_i hu;cases bt;obtain⟨s,rfl,_,hs⟩:=DataW.trod_string hu h;exact⟨_,.one (.str s hs) rfl⟩
   .rename_i e hu;have zU:∃(m':Nat) (te yj:Ty),gL P m' e=some te/\P.cellsOf e=te.flat.length/\1<=te.flat.length/\ty=.slice yj/\yj.unf=te:=by
     cases ht:uW P e<;>simp only[ht,zyv,zyu] at bt
     .simp only[aJ] at bt;obtain⟨te,zU,bt⟩:=bt;cases hb:(Nat.beq (P.cellsOf e) te.flat.length&&Nat.ble 1 te.flat.length)<;>simp only[hb,zyv,zyu] at bt
      .cases bt
      cases bt;simp only[aA] at hb;exact⟨m,te,te,zU,dP hb.1,mO hb.2,rfl,Ty.unf_ro (ZL zU)⟩
     .cases bt;obtain⟨k1,k2⟩:=awW ht 0;exact⟨2,.trmA,.trm,k1,k2,by decide,rfl,rfl⟩
    obtain⟨m',te,yj,zU,e1,e2,rfl,mu⟩:=zU;have iV:=ZL zU;rcases DataW.trod_slice hu h with⟨rfl,_⟩|⟨a,len,cp,elems,rest,n',jw,rfl,_,hba,hl,hm,hlen,jv,xf,_⟩
    .exact⟨_,.one (.nil yj) rfl⟩
    .cases jw;obtain⟨hrl,xc⟩:=xf rfl
     have qW:∀i,i<cp->∃ci y,w.cells? base (a.add (i*P.cellsOf e)) (P.cellsOf e)=some ci/\DataW.trod enc P w base (λ_=>true) held n e ci=some y:=by
      intro i hi
      have eh:∃y,(w.cells? base (a.add (i*P.cellsOf e)) (P.cellsOf e)).bind (DataW.trod enc P w base (λ_=>true) held n e)=some y:=by
           by_cases ND:i<len
           .rw[jv i ND];exact⟨_,cd (by omega)⟩
           .have:=xc (i-len) (by omega);rw[show len+(i-len)=i by omega] at this;rw[this];exact⟨_,cd (by omega)⟩
      obtain⟨y,hy⟩:=eh;rw[aJ] at hy;obtain⟨ci,h1,h2⟩:=hy;exact⟨ci,y,h1,h2⟩
     by_cases Gm:cp=0
     .subst Gm;have:len=0:=by omega
      subst this;exact⟨_,.one (.emp yj a) rfl⟩
     .have ahm:a.spot=none:=by
           obtain⟨ci,y,h1,_⟩:=qW 0 (by omega);obtain⟨_,_,h3⟩:=World.cells?_some h1;have:=h3 0 (by omega);simp only[Nat.zero_mul,Addr.add,if_true] at this;unfold World.cell? at this;cases hs:a.spot with
           |none=>rfl
           |some s=>
            exfalso;have hl:ci.length=P.cellsOf e:=(World.cells?_some h1).2.1;split at this
            .rw[hs] at this;simp at this;subst this;simp at hl;omega
            .rw[eq_comm,List.getElem?_eq_none_iff] at this;omega
      obtain⟨k,o,s⟩:=a;simp only at ahm;subst ahm;have bj:∀i,∃p:List Value×List D,i<len->w.cells? base ((⟨k,o,none⟩:Addr).add (i*P.cellsOf e)) (P.cellsOf e)=some p.1/\nQ cap (oQ w) te.flat p.1 p.2:=by
           intro i;by_cases hi:i<len
           .obtain⟨ci,y,h1,h2⟩:=qW i (by omega);obtain⟨ds,hr⟩:=ih m' _ _ _ _ h2 zU;exact⟨(ci,ds),λ_=>⟨h1,hr⟩⟩
           .exact⟨([],[]),λh=>absurd h hi⟩
      obtain⟨f,hf⟩:=Classical.axiomOfChoice bj;refine⟨_,.one (.slice yj k o len cp ((List.range len).map λi=>afg te.rowT (f i).2) (λi=>rowOf te.rowT (f i).1) (by simp) hl hm (λi x hx=>?_) (λi j u hi hj=>?_)) rfl⟩
      .rw[dF,aT] at hx;obtain⟨i',gi,rfl⟩:=hx;have aq:i<len:=by have:=(jF.1 gi).1;simpa using this
       rw[rZ aq] at gi;cases gi;rw[mu];exact Rep.ofRow iV (hf i aq).2
      .obtain⟨h1,h2⟩:=hf i hi;have ju:=aCg iV h2 hj;obtain⟨_,h4,h5⟩:=World.cells?_some h1;have iT:j<P.cellsOf e:=by rw[<-h4];exact(jF.1 ju).1
       have:=h5 j iT;rw[ju] at this;show w.cell? ⟨k,o+i*yj.size+j,none⟩=some u;rw[<-yj.unf_size,mu,<-ar8,<-e1,<-this]
       congr 1
       simp only[Addr.add];split<;>split<;>simp_all
   .rename_i fs hu;simp only[aJ] at bt;obtain⟨ts,N1,bt⟩:=bt;cases hb:Nat.beq (P.cellsOf t) ts.length<;>simp only[hb,zyv,zyu] at bt
    .cases bt
    cases bt;obtain⟨xs,n',jw,_,hl,Aa,hf⟩:=DataW.trod_struct hu h;cases jw
    have:=ana (ih m) fs.toList 0 cs ts N1 (by rw[hl,dP hb];omega) (λf hm=>by
     obtain⟨i,hi⟩:=List.getElem?_of_mem hm;have gi:fs[i]?=some f:=by simpa using hi
     have h1:=hf i f gi;have aq:i<fs.size:=(ij.1 gi).1;exact⟨_,h1.trans (cd (by omega))⟩)
    show ∃ds,nQ cap (oQ w) ts cs ds;simpa using this
   .cases bt
def Fu {base:Nat}{t:TypeId}{v:Value}(h:Cell.okWide P w .any base t v):v.cells=#[v]:=by
 cases v<;>first|rfl|(exfalso;simp only[Cell.okWide,Cell.ok] at h;revert h;cases P.underlying t with|none=>simp|some T=>cases T<;>simp)
def apE {base base':Nat}{m:Nat}{t:TypeId}{v:Value}{d:DataW zyz}{ps:List MemPlace}{ty:Ty}(aE:Value.okWide P w .any base' t v)(h:DataW.Trod enc P w base (λ_=>true) held t v d ps)(bt:gL P m t=some ty):∃d,Rep cap (oQ w) ty v d:=by
 obtain⟨fuel,h⟩:=h;obtain⟨ds,hr⟩:=aGX (cap:=cap) fuel m t _ _ _ h bt;have cG:=Rep.ofRow (ZL bt) hr;cases m with
 |zero=>simp[gL] at bt
 |succ m=>
  suffices hs:rowOf ty.rowT v.cells.toList=v by rw[hs] at cG;exact⟨_,cG⟩
  simp only[gL] at bt;unfold Value.okWide at aE;split at bt
  .rename_i hu;cases bt;rw[hu] at aE;simp only at aE;rw[Fu aE];rfl
  .rename_i hu;cases bt;rw[hu] at aE;simp only at aE;rw[Fu aE];rfl
  .rename_i hu;cases bt;rw[hu] at aE;simp only at aE;rw[Fu aE];rfl
  .rename_i e hu;cases ht:uW P e<;>simp only[ht,zyv,zyu] at bt
   .simp only[aJ] at bt;obtain⟨te,_,bt⟩:=bt;cases hb:(Nat.beq (P.cellsOf e) te.flat.length&&Nat.ble 1 te.flat.length)<;>simp only[hb,zyv,zyu] at bt
    .cases bt
    cases bt;rw[hu] at aE;simp only at aE;rw[Fu aE];rfl
   .cases bt;rw[hu] at aE;simp only at aE;rw[Fu aE];rfl
  .rename_i fs hu;simp only[aJ] at bt;obtain⟨ts,_,bt⟩:=bt;cases hb:Nat.beq (P.cellsOf t) ts.length<;>simp only[hb,zyv,zyu] at bt
   .cases bt
   cases bt;rw[hu] at aE;obtain⟨cs,rfl,_⟩:=aE;simp[rowOf,Ty.rowT,Value.cells]
  .cases bt
def Jl (P:Program)(m:Nat):List TypeId->Option (List Ty)
 |[]=>some []
 |t::ts=>(gL P m t).bind λx=>(Jl P m ts).map (x::·)
def aeG {base base' m:Nat}:∀(ts:List TypeId) (vs:List Value) (ds:List (DataW zyz)) (ps:List MemPlace) (pE:List Ty),DataW.TrodAll enc P w base (λ_=>true) held ts vs ds ps->Jl P m ts=some pE->
 (∀(j:Nat) t v,ts[j]?=some t->vs[j]?=some v->Value.okWide P w .any base' t v)->
 ∃es:List D,vs.length=pE.length/\es.length=pE.length/\∀(i:Nat) (t:Ty),pE[i]?=some t->Rep cap (oQ w) t (vs.getD i undef) (es.getD i .none)
 |[],vs,ds,ps,pE,h,bt,_=>by
  simp only[Jl,bx] at bt;subst bt;cases vs with
  |nil=>exact⟨[],rfl,rfl,λi t h=>by simp at h⟩
  |cons=>cases ds<;>exact h.elim
 |t::ts,vs,ds,ps,pE,h,bt,aE=>by
  simp only[Jl,aJ,aT] at bt;obtain⟨ty,awu,aG2,awv,rfl⟩:=bt;cases vs with
  |nil=>cases ds<;>exact h.elim
  |cons v vs=>
   cases ds with
   |nil=>exact h.elim
   |cons d ds=>
    obtain⟨p,q,h1,h2,_⟩:=h;obtain⟨e,he⟩:=apE (cap:=cap) (aE 0 t v rfl rfl) h1 awu;obtain⟨es,k1,k2,k3⟩:=aeG ts vs ds q aG2 h2 awv (λj t' v' hj hv=>aE (j+1) t' v' hj hv);refine⟨e::es,by simp[k1],by simp[k2],λi u hu=>?_⟩;cases i with
    |zero=>simp at hu;subst hu;exact he
    |succ i=>simpa using k3 i u (by simpa using hu)
end
mutual
inductive DTy:Ty->D->Prop where
 |int (k:IntKind) (n:Int) (h1:k.min<=n) (h2:n<=k.max):DTy (.int k) (.v (.int k n))
 |bool (b:Bool):DTy .bool (.v (.bool b))
 |str (s:ByteArray) (h:s.size<=maxLen):DTy .str (.v (.string s))
 |slice (e:Ty) (xs:List D) (hm:xs.length<=maxLen) (h:∀x,x∈xs->DTy e.unf x):DTy (.slice e) (.list xs)
 |agg (ts:List Ty) (ds:List D) (h:DTys ts ds):DTy (.agg ts) (.agg ds)
 |other (t:Ty) (d:D) (h:match t with|.int _|.bool|.str|.slice _|.agg _=>False|_=>True):DTy t d
inductive DTys:List Ty->List D->Prop where
 |nil:DTys [] []
 |cons {t:Ty} {d:D} {ts:List Ty} {ds:List D} (h:DTy t d) (hs:DTys ts ds):DTys (t::ts) (d::ds)
end
def DTys.of_get:∀{ts:List Ty} {ds:List D},ds.length=ts.length->(∀(i:Nat) (t:Ty),ts[i]?=some t->DTy t (ds.getD i .none))->DTys ts ds
 |[],[],_,_=>.nil
 |t::ts,d::ds,hl,h=>.cons (h 0 t rfl) (DTys.of_get (by simpa using hl) λi u hu=>by simpa using h (i+1) u (by simpa using hu))
 |[],_::_,hl,_=>by simp at hl
 |_::_,[],hl,_=>by simp at hl
def Rep.dty {cap:Nat->Option CSig}{H:Im}{t:Ty}{v:Value}{d:D}(h:Rep cap H t v d):DTy t d:=by
 induction h with
 |int k n h1 h2=>exact .int k n h1 h2
 |bool b=>exact .bool b
 |str s h=>exact .str s h
 |agg ts vs ds h1 h2 _ ho ih=>exact .agg ts ds (.of_get h2 ih)
 |nil e=>exact .slice e [] (by decide) (λx hx=>by cases hx)
 |emp e a=>exact .slice e [] (by decide) (λx hx=>by cases hx)
 |slice e k o n c xs vs hn hc hm _ hv ih=>
  refine .slice e xs (by omega) λx hx=>?_;obtain⟨i,hi⟩:=List.getElem?_of_mem hx;exact ih i x hi
 |_=>exact .other _ _ trivial
def axa {zyz:Type}{enc:TypeId×Value->zyz}{C:Ctx}{f:Nat}{fn:Func}{sg:Sig}{spec:ChangeSpec}{tb:TypeId}{apart fresh handsOn again:Bool}(hl:laidOutB C.P=true)
 (dO:Jl C.P 12 fn.params.toList=some sg.args) (avY:fn.params.toList.all (λt=>C.P.readableRec t&&decide (t<C.P.types.size))=true) (Vy:spec.vars=[])
 (awh:∀ds:List (DataW zyz),ds.length=fn.params.size->(spec.fn zyz ds).results=[.lit (.bool true)]/\(spec.fn zyz ds).args=ds/\(spec.fn zyz ds).vars=[])
 (oO:fn.resultTypes=#[tb]) (hub:C.P.underlying tb=some .bool) (uO:sg.mode=.dat) (uQ:sg.res=.bool)
 (UY:∀ds,DTys sg.args ds->mL C f sg ds (.v (.bool true)))
 (W:World) (C7:CtxOK C (oQ W)) (base:Nat) (args:Array Value) (ds gs:List (DataW zyz)) (before:List MemPlace)
 (cV:∀(j:Nat) t v,fn.params[j]?=some t->args[j]?=some v->Value.okWide C.P W .any base t v)
 (hW:DataW.Whole enc C.P fn.params.toList spec.vars apart W args.toList ds gs before):
 Calls C.P f args W λe W'=>∃v,e=.returned v/\spec.post enc C.P fn apart fresh handsOn again W args v W':=by
 have No:=hW;have aq:∀p∈before,p.block<W.heap.size:=λp hp=>No.lt p hp;obtain⟨p,q,hA,hV,rfl,UG,bX⟩:=hW;rw[Vy] at hV;obtain⟨rfl,rfl⟩:=trodVars_none hV;obtain⟨es,k1,k2,k3⟩:=aeG (cap:=C.cap) (base':=base) fn.params.toList args.toList ds p sg.args hA dO (λj t v hj hv=>cV j t v (by simpa using hj) (by simpa using hv));have bt:DTys sg.args es:=.of_get k2 λi t ht=>(k3 i t ht).dty
 have hlen:∀(ts:List TypeId) (vs:List Value) (ds:List (DataW zyz)) (ps:List MemPlace),DataW.TrodAll enc C.P W 0 (λ_=>true) true ts vs ds ps->ds.length=ts.length:=by
  intro ts
  induction ts with
  |nil=>intro vs ds ps h;cases vs<;>cases ds<;>first|rfl|exact h.elim
  |cons t ts ih=>
   intro vs ds ps h;cases vs with
   |nil=>cases ds<;>exact h.elim
   |cons v vs=>cases ds with
    |nil=>exact h.elim
    |cons d ds=>obtain⟨p,q,_,h2,_⟩:=h;simp[ih vs ds q h2]
 have Ux:ds.length=fn.params.size:=by simpa using hlen _ _ _ _ hA
 obtain⟨s1,s2,s3⟩:=awh (ds++[]) (by simpa using Ux);refine(UY es bt (oQ W) W args (awP W) C7 ⟨k1,k2,k3⟩).mono λe W' hh=>?_;obtain⟨v,H',rfl,_,_,hb,_,_,hr⟩:=hh;refine⟨v,rfl,?_⟩;simp only[ua,uO,uQ] at hr;obtain⟨b,rfl,zy⟩:=hr.bool_inv;cases zy
 have stays:∀(sp:Nat->Bool) (ts:List TypeId) (vs:List Value) (ds:List (DataW zyz)) (ps:List MemPlace),ts.all (λt=>C.P.readableRec t&&decide (t<C.P.types.size))=true->(∀x∈ps,x.block<W.heap.size)->(∀x∈ps,sp x.block=true)->
  DataW.TrodAll enc C.P W 0 (λ_=>true) true ts vs ds ps->DataW.TrodAll enc C.P W' 0 sp true ts vs ds ps:=by
  intro sp ts
  induction ts with
  |nil=>intro vs ds ps _ _ _ h;cases vs<;>cases ds<;>first|exact h|exact h.elim
  |cons t ts ih=>
   intro vs ds ps ha zO xf h;cases vs with
   |nil=>cases ds<;>exact h.elim
   |cons v vs=>cases ds with
    |nil=>exact h.elim
    |cons d ds=>
     obtain⟨p,q,h1,h2,rfl⟩:=h;simp only[vO,aA,decide_eq_true_eq] at ha
     exact⟨p,q,WideElems.Trod_stays hl ha.1.1 ha.1.2 h1 (λx hx=>hb.same (zO x (kC _ hx))) (λx hx=>xf x (kC _ hx)),
      ih vs ds q (by simpa using ha.2) (λx hx=>zO x (lg _ hx)) (λx hx=>xf x (lg _ hx)) h2,rfl⟩
 have agW:∀x∈p,x.block<W.heap.size:=λx hx=>aq x (kC _ hx);have mg:=λsp (h:∀x∈p,sp x.block=true)=>stays sp _ _ _ _ avY agW h hA;have xc:∀(b:Nat) (sp:Nat->Bool) (hd:Bool),DataW.TrodAll enc C.P W' b sp hd fn.resultTypes.toList ((Value.bool true).resultList fn.resultTypes.size) [.lit (.bool true)] []:=by
  intro b sp hd;rw[oO];exact trodAll_mk1 (shut_bool hub true)
 refine⟨ds,[],p++[],[],p,[],No,?_,?_,?_,World.keptBut_mono (λx hx=>⟨hx,?_⟩) (hb.frame (·∈p++[])),λ_=>?_⟩
 .rw[s1];exact xc _ _ _
 .rw[s2];simpa using mg _ (λx hx=>by simpa using agW x hx)
 .rw[s3,Vy];rfl
 .simpa using hx
 .refine⟨ok_one oO rfl (okWide_bool_mk hub true),_,[],([]++p)++[],⟨[]++p,[],trodAll_append (mg _ (λ_ _=>rfl)) (xc _ _ _),by rw[Vy];exact rfl,rfl,?_,?_⟩,?_⟩
  .intro b off hp;have cj:MemPlace.cell b off∈p++[]:=by simpa using hp
   rw[hb.frozen (aq _ cj)];exact UG b off cj
  .intro ha;simpa using bX ha
  .intro x hx _;simpa using hx
end Cx
namespace Cx
open Go Go.RowKit
abbrev cS:=Nat->bf
def ah (T:cS)(f:Nat)(ds:List D)(d:D):Prop:=∃n0,∀n,n0<=n->T n f ds=some d
def A6 (T:cS)(l:List PI)(Z:Env)(Q:Env->Prop):Prop:=∃Z',Q Z'/\∃n0,∀n,n0<=n->PI.runs (T n) l Z=some Z'
def aG (T:cS)(c:PC)(Z:Env)(Q:Out->Prop):Prop:=∃x,Q x/\∃n0,∀n,n0<=n->c.ev (T n) n Z=some x
def aG.mono {T:cS}{c:PC}{Z:Env}{Q Q':Out->Prop}(h:aG T c Z Q)(hq:∀x,Q x->Q' x):aG T c Z Q':=by
 obtain⟨x,hx,n0,hn⟩:=h;exact⟨x,hq x hx,n0,hn⟩
def A6.nil {T:cS}{Z:Env}{Q:Env->Prop}(h:Q Z):A6 T [] Z Q:=⟨Z,h,0,λ_ _=>rfl⟩
def A6.cons {T:cS}{p:PI}{l:List PI}{Z ρ1:Env}{Q:Env->Prop}{n0:Nat}(h:∀n,n0<=n->p.run (T n) Z=some ρ1)(k:A6 T l ρ1 Q):A6 T (p::l) Z Q:=by
 obtain⟨Z',hQ,n1,h1⟩:=k;exact⟨Z',hQ,max n0 n1,λn hn=>by simp[PI.runs,h n (by omega),h1 n (by omega)]⟩
def iJ (T:cS):List PI->Env->(Env->Prop)->Prop
 |[],Z,Q=>Q Z
 |.setR t e::l,Z,Q=>iJ T l (Z.setR t (e.ev Z)) Q
 |.setO t e::l,Z,Q=>iJ T l (Z.setO t (e.ev Z)) Q
 |.chk e::l,Z,Q=>(e.ev Z).b=true/\iJ T l Z Q
 |.call gs dst f args::l,Z,Q=>if holds gs Z=true then ∃d,ah T f (PE.evs Z args) d/\iJ T l (Z.setR dst d) Q else iJ T l Z Q
 |.callc gs dst e args::l,Z,Q=>if holds gs Z=true then ∃f caps d,e.ev Z=.clo f caps/\ah T f (PE.evs Z args++caps) d/\iJ T l (Z.setR dst d) Q else iJ T l Z Q
 |.mcall j f args::l,Z,Q=>∃d,ah T f (PE.evs Z args) d/\iJ T l (Z.setO j d) Q
def vL {T:cS}:∀{l:List PI} {Z:Env} {Q:Env->Prop},iJ T l Z Q->A6 T l Z Q
 |[],Z,Q,h=>.nil h
 |.setR t e::l,Z,Q,h=>.cons (n0:=0) (λ_ _=>rfl) (vL h)
 |.setO t e::l,Z,Q,h=>.cons (n0:=0) (λ_ _=>rfl) (vL h)
 |.chk e::l,Z,Q,h=>.cons (n0:=0) (λn _=>by simp[PI.run,h.1]) (vL h.2)
 |.call gs dst f args::l,Z,Q,h=>by
  unfold iJ at h;split at h
  .rename_i hg;obtain⟨d,⟨n0,hn⟩,h⟩:=h;exact .cons (n0:=n0) (λn hle=>by simp[PI.run,hg,hn n hle]) (vL h)
  .rename_i hg;exact .cons (n0:=0) (λn hle=>by simp[PI.run,hg]) (vL h)
 |.callc gs dst e args::l,Z,Q,h=>by
  unfold iJ at h;split at h
  .rename_i hg;obtain⟨f,caps,d,he,⟨n0,hn⟩,h⟩:=h;exact .cons (n0:=n0) (λn hle=>by simp[PI.run,hg,he,hn n hle]) (vL h)
  .rename_i hg;exact .cons (n0:=0) (λn hle=>by simp[PI.run,hg]) (vL h)
 |.mcall j f args::l,Z,Q,h=>by
  obtain⟨d,⟨n0,hn⟩,h⟩:=h;exact .cons (n0:=n0) (λn hle=>by simp[PI.run,hn n hle]) (vL h)
def lL (Z:Env)(lr lo:List Nat)(Q:Out->Prop):Out->Prop
 |.next Z'=>Q (.next (Z.join lr lo Z'))
 |x=>Q x
def mT (Z:Env)(id:Nat)(lr lo:List Nat)(Q:Out->Prop):Out->Prop
 |.next Z'=>Q (.next (Z.join lr lo Z'))
 |.exit cg Z'=>if cg=id then Q (.next (Z.join lr lo Z')) else Q (.exit cg Z')
 |.ret d=>Q (.ret d)
def fV (K:Env->Prop)(Q:Out->Prop):Out->Prop
 |.next Z'=>K Z'
 |.exit id Z'=>Q (.exit id Z')
 |.ret d=>Q (.ret d)
def aG.is {T:cS}{l:List PI}{Z:Env}{Q:Out->Prop}(h:iJ T l Z λZ'=>Q (.next Z')):aG T (.is l) Z Q:=by
 obtain⟨Z',hQ,n0,hn⟩:=vL h;exact⟨.next Z',hQ,n0,λn hle=>by simp[PC.ev,hn n hle]⟩
def aG.skip {T:cS}{Z:Env}{Q:Out->Prop}(h:Q (.next Z)):aG T .skip Z Q:=⟨_,h,0,λ_ _=>rfl⟩
def aG.exit {T:cS}{Z:Env}{id:Nat}{Q:Out->Prop}(h:Q (.exit id Z)):aG T (.exit id) Z Q:=⟨_,h,0,λ_ _=>rfl⟩
def aG.ret {T:cS}{Z:Env}{e:PE}{Q:Out->Prop}(h:Q (.ret (e.ev Z))):aG T (.ret e) Z Q:=⟨_,h,0,λ_ _=>rfl⟩
def aG.seq {T:cS}{a b:PC}{Z:Env}{Q:Out->Prop}(h:aG T a Z (fV (λZ'=>aG T b Z' Q) Q)):aG T (.seq a b) Z Q:=by
 obtain⟨x,hx,n0,hn⟩:=h;cases x with
 |next Z'=>
  obtain⟨y,hy,n1,h1⟩:=hx;exact⟨y,hy,max n0 n1,λn hle=>by simp[PC.ev,hn n (by omega),h1 n (by omega)]⟩
 |exit id Z'=>exact⟨_,hx,n0,λn hle=>by simp[PC.ev,hn n hle]⟩
 |ret d=>exact⟨_,hx,n0,λn hle=>by simp[PC.ev,hn n hle]⟩
def aG.ite {T:cS}{c:PE}{lr lo:List Nat}{a b:PC}{Z:Env}{Q:Out->Prop}(h:if(c.ev Z).b=true then aG T a Z (lL Z lr lo Q) else aG T b Z (lL Z lr lo Q)):aG T (.ite c lr lo a b) Z Q:=by
 split at h
 all_goals
  rename_i hc;obtain⟨x,hx,n0,hn⟩:=h;cases x with
  |next Z'=>exact⟨_,hx,n0,λn hle=>by simp[PC.ev,hc,hn n hle]⟩
  |exit id Z'=>exact⟨_,hx,n0,λn hle=>by simp[PC.ev,hc,hn n hle]⟩
  |ret d=>exact⟨_,hx,n0,λn hle=>by simp[PC.ev,hc,hn n hle]⟩
def aG.block {T:cS}{id:Nat}{lr lo:List Nat}{a:PC}{Z:Env}{Q:Out->Prop}(h:aG T a Z (mT Z id lr lo Q)):aG T (.block id lr lo a) Z Q:=by
 obtain⟨x,hx,n0,hn⟩:=h;cases x with
 |next Z'=>exact⟨_,hx,n0,λn hle=>by simp[PC.ev,hn n hle]⟩
 |exit cg Z'=>
  simp only[mT] at hx;split at hx
  .rename_i e;subst e;exact⟨_,hx,n0,λn hle=>by simp[PC.ev,hn n hle]⟩
  .rename_i e;exact⟨_,hx,n0,λn hle=>by simp[PC.ev,hn n hle,gS e]⟩
 |ret d=>exact⟨_,hx,n0,λn hle=>by simp[PC.ev,hn n hle]⟩
def aG.loop {T:cS}{lr lo:List Nat}{a:PC}{Z:Env}{Q:Out->Prop}{α:Type}(inv:α->List D->List D->Prop)(xC:α->Nat)(s0:α)(h0:inv s0 (lr.map Z.r) (lo.map Z.o))
 (step:∀s vr vo,inv s vr vo->aG T a (Z.put lr vr lo vo) (fV (λZ'=>∃s',xC s'<xC s/\inv s' (lr.map Z'.r) (lo.map Z'.o)) Q)):aG T (.loop lr lo a) Z Q:=by
 have key:∀(m:Nat) (s:α) (vr vo:List D),xC s<=m->inv s vr vo->∃x,Q x/\∃n0,∀n k,n0<=n->n0<=k->iY (a.ev (T n) n) Z lr lo k vr vo=some x:=by
  intro m
  induction m with
  |zero=>
   intro s vr vo hm hi;obtain⟨x,hx,n0,hn⟩:=step s vr vo hi;cases x with
   |next Z'=>obtain⟨s',aq,_⟩:=hx;omega
   |exit id Z'=>
    refine⟨_,hx,n0+1,λn k hle hk=>?_⟩;obtain⟨k',rfl⟩:∃k',k=k'+1:=⟨k-1,by omega⟩
    simp[iY,hn n (by omega)]
   |ret d=>
    refine⟨_,hx,n0+1,λn k hle hk=>?_⟩;obtain⟨k',rfl⟩:∃k',k=k'+1:=⟨k-1,by omega⟩
    simp[iY,hn n (by omega)]
  |succ m ih=>
   intro s vr vo hm hi;obtain⟨x,hx,n0,hn⟩:=step s vr vo hi;cases x with
   |next Z'=>
    obtain⟨s',aq,gi⟩:=hx;obtain⟨y,hy,n1,h1⟩:=ih s' _ _ (by omega) gi;refine⟨y,hy,max n0 n1+1,λn k hle hk=>?_⟩;obtain⟨k',rfl⟩:∃k',k=k'+1:=⟨k-1,by omega⟩
    simp[iY,hn n (by omega),h1 n k' (by omega) (by omega)]
   |exit id Z'=>
    refine⟨_,hx,n0+1,λn k hle hk=>?_⟩;obtain⟨k',rfl⟩:∃k',k=k'+1:=⟨k-1,by omega⟩
    simp[iY,hn n (by omega)]
   |ret d=>
    refine⟨_,hx,n0+1,λn k hle hk=>?_⟩;obtain⟨k',rfl⟩:∃k',k=k'+1:=⟨k-1,by omega⟩
    simp[iY,hn n (by omega)]
 obtain⟨x,hx,n0,hn⟩:=key (xC s0) s0 _ _ (bL _) h0;exact⟨x,hx,n0,λn hle=>by simp only[PC.ev];exact hn n n hle hle⟩
def wz (Z:Env)(lo:List Nat)(rt:Option PE)(K:List D->Prop)(Q:Out->Prop):Out->Prop
 |.next Z'=>K (lo.map Z'.o)
 |.exit id Z'=>if id=db then ∃e,rt=some e/\Q (.ret (e.ev (Z.put [] [] lo (lo.map Z'.o)))) else Q (.exit id (Z.put [] [] lo (lo.map Z'.o)))
 |.ret _=>False
def aG.each {T:cS}{e:PE}{ps lo:List Nat}{rt:Option PE}{a:PC}{Z:Env}{Q:Out->Prop}(xs:List D)(he:(e.ev Z).l=xs)(inv:Nat->List D->Prop)(h0:inv 0 (lo.map Z.o))
 (step:∀k x vo,xs[k]?=some x->inv k vo->aG T a (Z.put ps (partsOf ps x) lo vo) (wz Z lo rt (inv (k+1)) Q)) (done:∀vo,inv xs.length vo->Q (.next (Z.put [] [] lo vo))):aG T (.each e ps lo rt a) Z Q:=by
 have key:∀(r k:Nat) (vo:List D),k+r=xs.length->inv k vo->∃x,Q x/\∃n0,∀n,n0<=n->jn (a.ev (T n) n) Z ps lo rt (xs.drop k) vo=some x:=by
  intro r
  induction r with
  |zero=>
   intro k vo hk hi;have:xs.drop k=[]:=by rw[ad8];omega
   obtain rfl:k=xs.length:=by omega
   exact⟨_,done vo hi,0,λn _=>by rw[this];rfl⟩
  |succ r ih=>
   intro k vo hk hi;have aq:k<xs.length:=by omega
   rw[aoY aq];obtain⟨y,hy,n0,hn⟩:=step k xs[k] vo (cd aq) hi;cases y with
   |next Z'=>
    obtain⟨z,hz,n1,h1⟩:=ih (k+1) _ (by omega) hy;exact⟨z,hz,max n0 n1,λn hle=>by simp only[jn,hn n (by omega)];exact h1 n (by omega)⟩
   |exit id Z'=>
    simp only[wz] at hy;split at hy
    .rename_i cU;obtain⟨e,h1,h2⟩:=hy;exact⟨_,h2,n0,λn hle=>by subst cU;simp[jn,hn n hle,h1]⟩
    .rename_i cU;exact⟨_,hy,n0,λn hle=>by simp[jn,hn n hle,gS cU]⟩
   |ret d=>exact hy.elim
 obtain⟨x,hx,n0,hn⟩:=key xs.length 0 _ (by omega) h0;exact⟨x,hx,n0,λn hle=>by simp only[PC.ev,he];exact hn n hle⟩
def alA {α:Type}:∀(l:List α),∃L:List (List α),∀ys,ys∈L↔ys.Perm l
 |[]=>⟨[[]],λys=>by simp⟩
 |x::l=>by
  obtain⟨L,hL⟩:=alA l;refine⟨L.flatMap λys=>(List.range (ys.length+1)).map λi=>ys.take i++x::ys.drop i,λzs=>?_⟩;simp only[JT,fF,gR];constructor
  .rintro⟨ys,hy,i,_,rfl⟩;have h1:=(hL ys).1 hy;refine(List.perm_middle).trans (.cons x ?_);rw[RB];exact h1
  .intro h;have hx:x∈zs:=h.symm.subset (gy ..);obtain⟨s,t,rfl⟩:=List.append_of_mem hx;refine⟨s++t,(hL _).2 ?_,s.length,by simp;omega,by simp⟩;exact(List.perm_cons x).1 ((List.perm_middle).symm.trans h)
def aG.meach {T:cS}{J:Nat}{ps dz lo:List Nat}{a:PC}{Z:Env}{Q:Out->Prop}(es:List (D×D))(he:Z.o J=.tup [.list [],.map es])(inv:List D->List D->Prop)(h0:inv [] (lo.map Z.o))
 (step:∀done x rest vo,(done++x::rest).Perm (iZ (.map es))->inv done vo->aG T a ((Z.put ps (dz.map x.tget) lo vo).setO J (.tup [.list (done++[x]),.map es])) (λy=>∃Z',y=.next Z'/\inv (done++[x]) (lo.map Z'.o)))
 (last:∃vo,(∀done,done.Perm (iZ (.map es))->∀tM,inv done tM->tM=vo)/\Q (.next (Z.put [] [] lo vo))):aG T (.meach J ps dz lo a) Z Q:=by
 obtain⟨vo,hl,hQ⟩:=last;have key:∀(xs done:List D) (vs:List D),(done++xs).Perm (iZ (.map es))->inv done vs->∃n0,∀n,n0<=n->qj (a.ev (T n) n) Z J (.map es) ps dz lo xs done vs=some vo:=by
  intro xs
  induction xs with
  |nil=>intro done vs hp hi;exact⟨0,λn _=>by rw[hl done (by simpa using hp) vs hi];rfl⟩
  |cons x xs ih=>
   intro done vs hp hi;obtain⟨y,⟨Z',rfl,gi⟩,n0,hn⟩:=step done x xs vs hp hi;obtain⟨n1,h1⟩:=ih (done++[x]) _ (by simpa using hp) gi;exact⟨max n0 n1,λn hle=>by simp only[qj,hn n (by omega)];exact h1 n (by omega)⟩
 have qY:∀(L:List (List D)),(∀ys,ys∈L->ys.Perm (iZ (.map es)))->∃n0,∀n,n0<=n->∀ys,ys∈L->qj (a.ev (T n) n) Z J (.map es) ps dz lo ys [] (lo.map Z.o)=some vo:=by
  intro L
  induction L with
  |nil=>intro _;exact⟨0,λn _ ys hy=>by cases hy⟩
  |cons y L ih=>
   intro hL;obtain⟨n0,eH⟩:=ih λys hy=>hL ys (fY _ hy);obtain⟨n1,h1⟩:=key y [] _ (by simpa using hL y (gy ..)) h0;refine⟨max n0 n1,λn hle ys hy=>?_⟩;rcases dG.1 hy with e|hy
   .subst e;exact h1 n (by omega)
   .exact eH n (by omega) ys hy
 obtain⟨L,hL⟩:=alA (iZ (.map es));obtain⟨n0,hn⟩:=qY L λys hy=>(hL ys).1 hy;refine⟨_,hQ,n0,λn hle=>?_⟩;simp only[PC.ev,DS];refine⟨vo,⟨by rw[he];rfl,λys hy=>?_⟩,rfl⟩;rw[he] at hy ⊢;exact hn n hle ys ((hL ys).2 hy)
def bounded {Q:Nat->Nat->Prop}:∀(L:Nat),(∀m,m<=L->∃n0,∀n,n0<=n->Q m n)->∃n0,∀n,n0<=n->∀m,m<=L->Q m n
 |0,h=>by
  obtain⟨n0,hn⟩:=h 0 (bL _)
  exact⟨n0,λn hle m hm=>by (obtain rfl:m=0:=by omega);exact hn n hle⟩
 |L+1,h=>by
  obtain⟨n0,hn⟩:=bounded L λm hm=>h m (by omega);obtain⟨n1,h1⟩:=h (L+1) (bL _);refine⟨max n0 n1,λn hle m hm=>?_⟩;by_cases e:m=L+1
  .subst e;exact h1 n (by omega)
  .exact hn n (by omega) m (by omega)
def ah.of_pc {tab:Nat->Option PC}{ext:Nat->Option (bf->List D->Option D)}{f:Nat}{pc:PC}{ds:List D}{d:D}(hx:ext f=none)(ht:tab f=some pc)(h:aG (eE tab ext) pc (ou ds) (λx=>x=.ret d)):ah (eE tab ext) f ds d:=by
 obtain⟨x,rfl,n0,hn⟩:=h;refine⟨n0+1,λn hle=>?_⟩;obtain⟨k,rfl⟩:∃k,n=k+1:=⟨n-1,by omega⟩
 simp[eE,hx,ht,hn k (by omega)]
def ah.of_ext {tab:Nat->Option PC}{ext:Nat->Option (bf->List D->Option D)}{f:Nat}{g:bf->List D->Option D}{ds:List D}{d:D}(hx:ext f=some g)(h:∃n0,∀n,n0<=n->g (eE tab ext n) ds=some d):ah (eE tab ext) f ds d:=by
 obtain⟨n0,hn⟩:=h;refine⟨n0+1,λn hle=>?_⟩;obtain⟨k,rfl⟩:∃k,n=k+1:=⟨n-1,by omega⟩
 simp[eE,hx,hn k (by omega)]
def JI (T:cS)(xs:List D)(m:Nat):cS:=λn=>yldΦ (T n) xs m
def ah.yld {T:cS}{xs:List D}{m f:Nat}{ds:List D}{d:D}(h:ah T f ds d)(hf:f≠nH):ah (JI T xs m) f ds d:=by
 obtain⟨n0,hn⟩:=h;exact⟨n0,λn hle=>by simp[JI,yldΦ,hf,hn n hle]⟩
def ah.answer {T:cS}{xs l:List D}{m i:Nat}(hl:l=xs.take (i+1))(hi:i<xs.length)(hm:i<=m):ah (JI T xs m) nH [.list l] (.v (.bool (decide (i<m)))):=by
 subst hl;refine⟨0,λn _=>?_⟩;have h1:(xs.take (i+1)).length=i+1:=by rw[eQ];omega
 simp only[JI,yldΦ,if_true,h1];rw[if_pos ⟨by omega,by omega,trivial⟩];rfl
def ah.of_it {tab:Nat->Option PC}{ext:Nat->Option (bf->List D->Option D)}{f:Nat}{pc:PC}{J k:Nat}{spec:List D->List D}{ds:List D}(hx:ext f=some (Hh pc J k spec))(hk:∀x,x∈spec ds->∃cO,x=.tup cO/\cO.length=k)
 (h:∀m,m<=(spec ds).length->aG (JI (eE tab ext) (spec ds) m) pc (CL J ds) (λx=>x=.ret (.list ((spec ds).take (m+1))))):ah (eE tab ext) f ds (.list (spec ds)):=by
 refine ah.of_ext hx ?_
 obtain⟨n0,hn⟩:=bounded (Q:=λm n=>pc.ev (yldΦ (eE tab ext n) (spec ds) m) n (CL J ds)=some (.ret (.list ((spec ds).take (m+1))))) (spec ds).length (λm hm=>by
  obtain⟨x,rfl,n0,hn⟩:=h m hm;exact⟨n0,hn⟩)
 refine⟨n0,λn hle=>?_⟩;unfold Hh;rw[if_pos];exact⟨λm hm=>⟨n,hn n hle m hm⟩,hk⟩
def ah.det {T:cS}{f:Nat}{ds:List D}{d d':D}(h:ah T f ds d)(k:ah T f ds d'):d=d':=by
 obtain⟨n0,hn⟩:=h;obtain⟨n1,h1⟩:=k;have:=(hn (max n0 n1) (by omega)).symm.trans (h1 (max n0 n1) (by omega));exact EO this
def ah.fnOK {C:Ctx}{tab:Nat->Option PC}{ext:Nat->Option (bf->List D->Option D)}(h:TabOK C tab ext){f:Nat}{s:Sig}{ds:List D}{d:D}(hs:C.sig f=some s)(hr:ah (eE tab ext) f ds d)(hm:Ae s.mode=false:=by rfl):mL C f s ds d:=by
 obtain⟨n0,hn⟩:=hr;exact((aev h n0).1 f ds d (hn n0 (bL _)) s hs).1 hm
def Le (V Ψ:bf):Prop:=∀f ds d,V f ds=some d->Ψ f ds=some d
def Env.setR_r (Z:Env)(t u:Nat)(d:D):(Z.setR t d).r u=if u=t then d else Z.r u:=by simp only[Env.setR,ic]
def Env.setO_o (Z:Env)(t u:Nat)(d:D):(Z.setO t d).o u=if u=t then d else Z.o u:=by simp only[Env.setO,ic]
def Env.join_r (Z Z':Env)(lr lo:List Nat)(u:Nat):(Z.join lr lo Z').r u=if u∈lr then Z'.r u else Z.r u:=by simp only[Env.join,Env.put,vf]
def Env.join_o (Z Z':Env)(lr lo:List Nat)(u:Nat):(Z.join lr lo Z').o u=if u∈lo then Z'.o u else Z.o u:=by simp only[Env.join,Env.put,vf]
def O6 (f:Nat->D)(i:Nat)(is:List Nat)(x:D)(xs:List D)(u:Nat):putL f (i::is) (x::xs) u=if u=i then x else putL f is xs u:=by simp only[putL,ic]
def O7 (f:Nat->D)(xs:List D)(u:Nat):putL f [] xs u=f u:=by cases xs<;>rfl
def avK (g:Nat×Bool)(gs:List (Nat×Bool))(Z:Env):holds (g::gs) Z=((Z.r g.1).b==g.2&&holds gs Z):=rfl
def D.tget_tup (x:List D)(i:Nat):(D.tup x).tget i=x.getD i .none:=rfl
def D.c_agg (x:List D)(i:Nat):(D.agg x).c i=x.getD i .none:=rfl
structure SE where
 r:List (Nat×PE)
 o:List (Nat×PE)
def SE.getR (s:SE)(t:Nat):PE:=match bV s.r t with|some e=>e|none=>.r t
def SE.getO (s:SE)(t:Nat):PE:=match bV s.o t with|some e=>e|none=>.o t
def SE.setR (s:SE)(t:Nat)(e:PE):SE:=⟨(t,e)::s.r,s.o⟩
def SE.setO (s:SE)(t:Nat)(e:PE):SE:=⟨s.r,(t,e)::s.o⟩
def SE.id:SE:=⟨[],[]⟩
def SE.ev (s:SE)(Z:Env):Env:=⟨λt=>(s.getR t).ev Z,λt=>(s.getO t).ev Z⟩
def SE.join (s:SE)(lr lo:List Nat)(s':SE):SE:=⟨lr.map (λt=>(t,s'.getR t))++s.r,lo.map (λt=>(t,s'.getO t))++s.o⟩
def SE.setR_ev (s:SE)(t:Nat)(e:PE)(Z:Env):(s.setR t e).ev Z=(s.ev Z).setR t (e.ev Z):=by
 have h:(λu=>((s.setR t e).getR u).ev Z)=cL (λu=>(s.getR u).ev Z) t (e.ev Z):=by
  funext u;simp only[SE.getR,SE.setR,bV,ic];by_cases h:t=u
  .subst h;simp
  .have h':¬u=t:=λe=>h e.symm;simp[gS h,h']
 simp only[SE.ev,Env.setR];rw[h];rfl
def SE.setO_ev (s:SE)(t:Nat)(e:PE)(Z:Env):(s.setO t e).ev Z=(s.ev Z).setO t (e.ev Z):=by
 have h:(λu=>((s.setO t e).getO u).ev Z)=cL (λu=>(s.getO u).ev Z) t (e.ev Z):=by
  funext u;simp only[SE.getO,SE.setO,bV,ic];by_cases h:t=u
  .subst h;simp
  .have h':¬u=t:=λe=>h e.symm;simp[gS h,h']
 simp only[SE.ev,Env.setO];rw[h];rfl
def Al {f:Nat->PE}{l:List (Nat×PE)}{u:Nat}:∀(lr:List Nat),bV (lr.map (λt=>(t,f t))++l) u=if u∈lr then some (f u) else bV l u
 |[]=>by simp
 |t::lr=>by
  simp only[j6,Rv,bV,Al lr,dG];by_cases h:t=u
  .subst h;simp
  .have h':¬u=t:=λe=>h e.symm;simp[gS h,h']
def SE.join_ev (s s':SE)(lr lo:List Nat)(Z:Env):(s.join lr lo s').ev Z=(s.ev Z).join lr lo (s'.ev Z):=by
 have h1:∀u,((s.join lr lo s').getR u).ev Z=((s.ev Z).join lr lo (s'.ev Z)).r u:=by
  intro u;rw[Env.join_r];have e:bV (s.join lr lo s').r u=if u∈lr then some (s'.getR u) else bV s.r u:=Al lr;unfold SE.getR;rw[e];by_cases h:u∈lr
  .simp only[h,if_true];rfl
  .simp only[h,if_false];rfl
 have h2:∀u,((s.join lr lo s').getO u).ev Z=((s.ev Z).join lr lo (s'.ev Z)).o u:=by
  intro u;rw[Env.join_o];have e:bV (s.join lr lo s').o u=if u∈lo then some (s'.getO u) else bV s.o u:=Al lo;unfold SE.getO;rw[e];by_cases h:u∈lo
  .simp only[h,if_true];rfl
  .simp only[h,if_false];rfl
 have e1:(λu=>((s.join lr lo s').getR u).ev Z)=((s.ev Z).join lr lo (s'.ev Z)).r:=funext h1;have e2:(λu=>((s.join lr lo s').getO u).ev Z)=((s.ev Z).join lr lo (s'.ev Z)).o:=funext h2;show Env.mk _ _=_;rw[e1,e2]
abbrev cv:=List (PE×Bool)
def cv.ok (ak:cv)(Z:Env):Prop:=∀x,x∈ak->(x.1.ev Z).b=x.2
def Kc (e:PE):cv->Option Bool
 |[]=>none
 |x::l=>bif PE.beq x.1 e then some x.2 else Kc e l
def aeK {e:PE}{Z:Env}{b:Bool}:∀{ak:cv},ak.ok Z->Kc e ak=some b->(e.ev Z).b=b
 |[],_,h=>by cases h
 |x::l,aE,h=>by
  simp only[Kc] at h;cases hb:PE.beq x.1 e<;>simp only[hb,zyv,zyu] at h
  .exact aeK (λy hy=>aE y (fY _ hy)) h
  .cases h;rw[<-PE.beq_eq _ _ hb];exact aE x (gy ..)
def yt (ak:cv):PE->Option Bool
 |.con (.v (.bool b))=>some b
 |.nt x=>(yt ak x).map (!·)
 |e=>Kc e ak
def AV {ak:cv}{Z:Env}(h:ak.ok Z):∀{e:PE} {b:Bool},yt ak e=some b->(e.ev Z).b=b
 |.con (.v (.bool b)),b',he=>by simp only[yt,bx] at he;subst he;rfl
 |.nt x,b',he=>by
  simp only[yt,aT] at he;obtain⟨c,hc,rfl⟩:=he;simp only[PE.ev,D.b_bool,AV h hc]
 |e,b',he=>by
  unfold yt at he;split at he
  .cases he;rfl
  .rename_i x;simp only[aT] at he;obtain⟨c,hc,rfl⟩:=he;simp only[PE.ev,D.b_bool,AV h hc]
  .exact aeK h he
def ve (ak:cv)(c a b:PE):PE:=match yt ak c with|some true=>a|some false=>b|none=>.pick c a b
def XB {ak:cv}{Z:Env}(h:ak.ok Z)(c a b:PE):(ve ak c a b).ev Z=(PE.pick c a b).ev Z:=by
 unfold ve;split
 .rename_i ht;simp[PE.ev,AV h ht]
 .rename_i ht;simp[PE.ev,AV h ht]
 .rfl
def TC:PE->PE
 |.ref x=>x
 |x=>.deref x
def aqL (x:PE)(Z:Env):(TC x).ev Z=(PE.deref x).ev Z:=by unfold TC;split<;>rfl
def Z9:PE->Nat->PE
 |.tup es,i=>es.getD i (.con .none)
 |x,i=>.tget x i
def aDg (x:PE)(i:Nat)(Z:Env):(Z9 x i).ev Z=(PE.tget x i).ev Z:=by
 unfold Z9;split
 .rename_i es;simp only[PE.ev,D.tget_tup,PE.evs_eq,bn,dF];cases es[i]?<;>rfl
 .rfl
def HD:PE->Bool
 |.ai ..|.ci ..|.cb ..|.cs ..|.sadd ..|.nt _|.conv ..|.llen _|.bytes _|.slen _|.mlen _|.idx ..|.sidx ..|.sok ..|.slok ..|.lst _|.app ..|.setn ..|.rep ..|.slc ..|.ref _|.has ..|.put ..|.an ..|.imp ..|.tup _|.clo ..=>true
 |.con (.v _)|.con (.list _)|.con (.map _)=>true
 |_=>false
def azS {e:PE}(h:HD e=true)(Z:Env):(e.ev Z).cells=[e.ev Z]:=by
 unfold HD at h;split at h<;>first|rfl|cases h
def Tp:PE->Nat->PE
 |.mk es,i=>bif es.all HD then es.getD i (.con .none) else .cell (.mk es) i
 |x,i=>.cell x i
def afG {Z:Env}:∀{es:List PE},es.all HD=true->PE.evc Z es=PE.evs Z es
 |[],_=>rfl
 |e::es,h=>by
  simp only[vO,aA] at h;simp only[PE.evc,PE.evs,azS h.1,afG h.2];rfl
def ap8 (x:PE)(i:Nat)(Z:Env):(Tp x i).ev Z=(PE.cell x i).ev Z:=by
 unfold Tp;split
 .rename_i es;cases hc:es.all HD
  .rfl
  .simp only[zyv,PE.ev,afG hc,D.c_agg,PE.evs_eq,bn,dF];cases es[i]?<;>rfl
 .rfl
def Gd (s:SE):List (Nat×Bool)->PE
 |[]=>.con (.v (.bool true))
 |g::gs=>.an (bif g.2 then s.getR g.1 else .nt (s.getR g.1)) (Gd s gs)
def afW (s:SE)(Z:Env):∀gs,((Gd s gs).ev Z).b=holds gs (s.ev Z)
 |[]=>rfl
 |g::gs=>by
  have ih:=afW s Z gs;rw[avK,<-ih];have e:((s.ev Z).r g.1)=(s.getR g.1).ev Z:=rfl;rw[e];cases hg:g.2
  .simp only[Gd,hg,zyu,PE.ev,D.b_bool];cases((s.getR g.1).ev Z).b<;>rfl
  .simp only[Gd,hg,zyv,PE.ev,D.b_bool];cases((s.getR g.1).ev Z).b<;>rfl
mutual
def PE.sub' (ak:cv)(s:SE):PE->PE
 |.r t=>s.getR t
 |.o j=>s.getO j
 |.con d=>.con d
 |.cell e i=>Tp (PE.sub' ak s e) i
 |.sub e a b=>.sub (PE.sub' ak s e) a b
 |.setc e q x=>.setc (PE.sub' ak s e) q (PE.sub' ak s x)
 |.mk es=>.mk (PE.subs' ak s es)
 |.ai op k x y=>.ai op k (PE.sub' ak s x) (PE.sub' ak s y)
 |.ci op x y=>.ci op (PE.sub' ak s x) (PE.sub' ak s y)
 |.cb op x y=>.cb op (PE.sub' ak s x) (PE.sub' ak s y)
 |.cs op x y=>.cs op (PE.sub' ak s x) (PE.sub' ak s y)
 |.sadd x y=>.sadd (PE.sub' ak s x) (PE.sub' ak s y)
 |.nt x=>.nt (PE.sub' ak s x)
 |.conv k x=>.conv k (PE.sub' ak s x)
 |.pick c a b=>ve ak (PE.sub' ak s c) (PE.sub' ak s a) (PE.sub' ak s b)
 |.llen x=>.llen (PE.sub' ak s x)
 |.bytes x=>.bytes (PE.sub' ak s x)
 |.slen x=>.slen (PE.sub' ak s x)
 |.mlen x=>.mlen (PE.sub' ak s x)
 |.nth x y=>.nth (PE.sub' ak s x) (PE.sub' ak s y)
 |.idx x y=>.idx (PE.sub' ak s x) (PE.sub' ak s y)
 |.sidx x y=>.sidx (PE.sub' ak s x) (PE.sub' ak s y)
 |.sok x y=>.sok (PE.sub' ak s x) (PE.sub' ak s y)
 |.setn x y n z=>.setn (PE.sub' ak s x) (PE.sub' ak s y) n (PE.sub' ak s z)
 |.app x y=>.app (PE.sub' ak s x) (PE.sub' ak s y)
 |.lst es=>.lst (PE.subs' ak s es)
 |.rep x y=>.rep (PE.sub' ak s x) (PE.sub' ak s y)
 |.slc x y z=>.slc (PE.sub' ak s x) (PE.sub' ak s y) (PE.sub' ak s z)
 |.slok x y z=>.slok (PE.sub' ak s x) (PE.sub' ak s y) (PE.sub' ak s z)
 |.ref x=>.ref (PE.sub' ak s x)
 |.deref x=>TC (PE.sub' ak s x)
 |.look x y z=>.look (PE.sub' ak s x) (PE.sub' ak s y) (PE.sub' ak s z)
 |.has x y=>.has (PE.sub' ak s x) (PE.sub' ak s y)
 |.put x y z=>.put (PE.sub' ak s x) (PE.sub' ak s y) (PE.sub' ak s z)
 |.mn x y=>.mn (PE.sub' ak s x) (PE.sub' ak s y)
 |.mx x y=>.mx (PE.sub' ak s x) (PE.sub' ak s y)
 |.tup es=>.tup (PE.subs' ak s es)
 |.tget x i=>Z9 (PE.sub' ak s x) i
 |.clo f es=>.clo f (PE.subs' ak s es)
 |.an x y=>.an (PE.sub' ak s x) (PE.sub' ak s y)
 |.imp c x=>.nt (.an (Gd s c) (.nt (PE.sub' ak s x)))
def PE.subs' (ak:cv)(s:SE):List PE->List PE
 |[]=>[]
 |e::es=>PE.sub' ak s e::PE.subs' ak s es
end
mutual
def PE.sub_ev {ak:cv}{Z:Env}(h:ak.ok Z)(s:SE):∀(e:PE),(PE.sub' ak s e).ev Z=e.ev (s.ev Z)
 |.r t=>rfl
 |.o j=>rfl
 |.con d=>rfl
 |.cell e i=>by simp only[PE.sub',ap8,PE.ev,PE.sub_ev h s e]
 |.sub e a b=>by simp only[PE.sub',PE.ev,PE.sub_ev h s e]
 |.setc e q x=>by simp only[PE.sub',PE.ev,PE.sub_ev h s e,PE.sub_ev h s x]
 |.mk es=>by simp only[PE.sub',PE.ev,PE.subc_ev h s es]
 |.ai op k x y=>by simp only[PE.sub',PE.ev,PE.sub_ev h s x,PE.sub_ev h s y]
 |.ci op x y=>by simp only[PE.sub',PE.ev,PE.sub_ev h s x,PE.sub_ev h s y]
 |.cb op x y=>by simp only[PE.sub',PE.ev,PE.sub_ev h s x,PE.sub_ev h s y]
 |.cs op x y=>by simp only[PE.sub',PE.ev,PE.sub_ev h s x,PE.sub_ev h s y]
 |.sadd x y=>by simp only[PE.sub',PE.ev,PE.sub_ev h s x,PE.sub_ev h s y]
 |.nt x=>by simp only[PE.sub',PE.ev,PE.sub_ev h s x]
 |.conv k x=>by simp only[PE.sub',PE.ev,PE.sub_ev h s x]
 |.pick c a b=>by simp only[PE.sub',XB h,PE.ev,PE.sub_ev h s c,PE.sub_ev h s a,PE.sub_ev h s b]
 |.llen x=>by simp only[PE.sub',PE.ev,PE.sub_ev h s x]
 |.bytes x=>by simp only[PE.sub',PE.ev,PE.sub_ev h s x]
 |.slen x=>by simp only[PE.sub',PE.ev,PE.sub_ev h s x]
 |.mlen x=>by simp only[PE.sub',PE.ev,PE.sub_ev h s x]
 |.nth x y=>by simp only[PE.sub',PE.ev,PE.sub_ev h s x,PE.sub_ev h s y]
 |.idx x y=>by simp only[PE.sub',PE.ev,PE.sub_ev h s x,PE.sub_ev h s y]
 |.sidx x y=>by simp only[PE.sub',PE.ev,PE.sub_ev h s x,PE.sub_ev h s y]
 |.sok x y=>by simp only[PE.sub',PE.ev,PE.sub_ev h s x,PE.sub_ev h s y]
 |.setn x y n z=>by simp only[PE.sub',PE.ev,PE.sub_ev h s x,PE.sub_ev h s y,PE.sub_ev h s z]
 |.app x y=>by simp only[PE.sub',PE.ev,PE.sub_ev h s x,PE.sub_ev h s y]
 |.lst es=>by simp only[PE.sub',PE.ev,PE.subs_ev h s es]
 |.rep x y=>by simp only[PE.sub',PE.ev,PE.sub_ev h s x,PE.sub_ev h s y]
 |.slc x y z=>by simp only[PE.sub',PE.ev,PE.sub_ev h s x,PE.sub_ev h s y,PE.sub_ev h s z]
 |.slok x y z=>by simp only[PE.sub',PE.ev,PE.sub_ev h s x,PE.sub_ev h s y,PE.sub_ev h s z]
 |.ref x=>by simp only[PE.sub',PE.ev,PE.sub_ev h s x]
 |.deref x=>by simp only[PE.sub',aqL,PE.ev,PE.sub_ev h s x]
 |.look x y z=>by simp only[PE.sub',PE.ev,PE.sub_ev h s x,PE.sub_ev h s y,PE.sub_ev h s z]
 |.has x y=>by simp only[PE.sub',PE.ev,PE.sub_ev h s x,PE.sub_ev h s y]
 |.put x y z=>by simp only[PE.sub',PE.ev,PE.sub_ev h s x,PE.sub_ev h s y,PE.sub_ev h s z]
 |.mn x y=>by simp only[PE.sub',PE.ev,PE.sub_ev h s x,PE.sub_ev h s y]
 |.mx x y=>by simp only[PE.sub',PE.ev,PE.sub_ev h s x,PE.sub_ev h s y]
 |.tup es=>by simp only[PE.sub',PE.ev,PE.subs_ev h s es]
 |.tget x i=>by simp only[PE.sub',aDg,PE.ev,PE.sub_ev h s x]
 |.clo f es=>by simp only[PE.sub',PE.ev,PE.subs_ev h s es]
 |.an x y=>by simp only[PE.sub',PE.ev,PE.sub_ev h s x,PE.sub_ev h s y]
 |.imp c x=>by
  simp only[PE.sub',PE.ev,D.b_bool,afW,PE.sub_ev h s x];cases holds c (s.ev Z)<;>cases(x.ev (s.ev Z)).b<;>rfl
def PE.subs_ev {ak:cv}{Z:Env}(h:ak.ok Z)(s:SE):∀(es:List PE),PE.evs Z (PE.subs' ak s es)=PE.evs (s.ev Z) es
 |[]=>rfl
 |e::es=>by simp only[PE.subs',PE.evs,PE.sub_ev h s e,PE.subs_ev h s es]
def PE.subc_ev {ak:cv}{Z:Env}(h:ak.ok Z)(s:SE):∀(es:List PE),PE.evc Z (PE.subs' ak s es)=PE.evc (s.ev Z) es
 |[]=>rfl
 |e::es=>by simp only[PE.subs',PE.evc,PE.sub_ev h s e,PE.subc_ev h s es]
end
inductive PT where
 |next (s:SE)
 |exit (id:Nat) (s:SE)
 |ret (e:PE)
 |chk (e:PE) (k:PT)
 |ite (c:PE) (a b:PT)
 |call (s:SE) (gs:List (Nat×Bool)) (dst f:Nat) (args:List PE) (k:PT)
 |callc (s:SE) (gs:List (Nat×Bool)) (dst:Nat) (e:PE) (args:List PE) (k:PT)
 |mcall (s:SE) (j f:Nat) (args:List PE) (k:PT)
 |iteS (s:SE) (c:PE) (lr lo:List Nat) (a b k:PT)
 |blockS (s:SE) (id:Nat) (lr lo:List Nat) (a k:PT)
 |brk (s:SE) (c:PC) (k:PT)
def aL (T:cS):PT->Env->(Out->Prop)->Prop
 |.next s,Z,Q=>Q (.next (s.ev Z))
 |.exit id s,Z,Q=>Q (.exit id (s.ev Z))
 |.ret e,Z,Q=>Q (.ret (e.ev Z))
 |.chk e k,Z,Q=>(e.ev Z).b=true/\aL T k Z Q
 |.ite c a b,Z,Q=>if(c.ev Z).b=true then aL T a Z Q else aL T b Z Q
 |.call s gs dst f args k,Z,Q=>if holds gs (s.ev Z)=true then ∃d,ah T f (PE.evs Z args) d/\aL T k ((s.ev Z).setR dst d) Q else aL T k (s.ev Z) Q
 |.callc s gs dst e args k,Z,Q=>if holds gs (s.ev Z)=true then ∃f caps d,e.ev Z=.clo f caps/\ah T f (PE.evs Z args++caps) d/\aL T k ((s.ev Z).setR dst d) Q else aL T k (s.ev Z) Q
 |.mcall s j f args k,Z,Q=>∃d,ah T f (PE.evs Z args) d/\aL T k ((s.ev Z).setO j d) Q
 |.iteS s c lr lo a b k,Z,Q=>if(c.ev Z).b=true then aL T a (s.ev Z) (lL (s.ev Z) lr lo (fV (λZ'=>aL T k Z' Q) Q)) else aL T b (s.ev Z) (lL (s.ev Z) lr lo (fV (λZ'=>aL T k Z' Q) Q))
 |.blockS s id lr lo a k,Z,Q=>aL T a (s.ev Z) (mT (s.ev Z) id lr lo (fV (λZ'=>aL T k Z' Q) Q))
 |.brk s c k,Z,Q=>aG T c (s.ev Z) (fV (λZ'=>aL T k Z' Q) Q)
def qk:PI->Bool
 |.setR ..|.setO ..|.chk _=>true
 |_=>false
def ew:PC->Bool
 |.loop ..=>false
 |.each ..=>false
 |.meach ..=>false
 |.seq a b=>ew a&&ew b
 |.ite _ _ _ a b=>ew a&&ew b
 |.block _ _ _ a=>ew a
 |.is l=>l.all qk
 |_=>true
abbrev Kn:=cv->SE->PT
abbrev Kx:=cv->Nat->SE->PT
def pC:List PI->cv->SE->Kn->PT
 |[],ak,s,k=>k ak s
 |.setR t e::l,ak,s,k=>pC l ak (s.setR t (e.sub' ak s)) k
 |.setO t e::l,ak,s,k=>pC l ak (s.setO t (e.sub' ak s)) k
 |.chk e::l,ak,s,k=>
  match yt ak (e.sub' ak s) with
  |some true=>pC l ak s k
  |_=>.chk (e.sub' ak s) (pC l ((e.sub' ak s,true)::ak) s k)
 |.call gs dst f args::l,ak,s,k=>.call s gs dst f (PE.subs' ak s args) (pC l [] .id k)
 |.callc gs dst e args::l,ak,s,k=>.callc s gs dst (e.sub' ak s) (PE.subs' ak s args) (pC l [] .id k)
 |.mcall j f args::l,ak,s,k=>.mcall s j f (PE.subs' ak s args) (pC l [] .id k)
def SE.merge (s:SE)(ak:cv)(lr lo:List Nat)(c:PE)(a b:SE):SE:=⟨lr.map (λt=>(t,ve ak c (a.getR t) (b.getR t)))++s.r,lo.map (λt=>(t,ve ak c (a.getO t) (b.getO t)))++s.o⟩
def rq:List PI->cv->SE->Option SE
 |[],_,s=>some s
 |.setR t e::l,ak,s=>rq l ak (s.setR t (e.sub' ak s))
 |.setO t e::l,ak,s=>rq l ak (s.setO t (e.sub' ak s))
 |_::_,_,_=>none
def plain:PC->cv->SE->Option SE
 |.skip,_,s=>some s
 |.is l,ak,s=>rq l ak s
 |.seq a b,ak,s=>(plain a ak s).bind λs=>plain b ak s
 |.ite c lr lo a b,ak,s=>(plain a ak s).bind λsa=>(plain b ak s).map λsb=>s.merge ak lr lo (c.sub' ak s) sa sb
 |_,_,_=>none
def ahM:PC->Bool
 |.loop ..=>true
 |_=>false
def sx:PC->cv->SE->Kn->Kx->PT
 |.skip,ak,s,k,_=>k ak s
 |.is l,ak,s,k,_=>pC l ak s k
 |.seq a b,ak,s,k,kx=>sx a ak s (λak s=>sx b ak s k kx) kx
 |.ite c lr lo a b,ak,s,k,kx=>
  match yt ak (c.sub' ak s) with
  |some true=>bif ew a then sx a ak s (λak s'=>k ak (s.join lr lo s')) kx else .iteS s (c.sub' ak s) lr lo (sx a [] .id (λ_ s=>.next s) (λ_ id s=>.exit id s)) (sx b [] .id (λ_ s=>.next s) (λ_ id s=>.exit id s)) (k [] .id)
  |some false=>bif ew b then sx b ak s (λak s'=>k ak (s.join lr lo s')) kx else .iteS s (c.sub' ak s) lr lo (sx a [] .id (λ_ s=>.next s) (λ_ id s=>.exit id s)) (sx b [] .id (λ_ s=>.next s) (λ_ id s=>.exit id s)) (k [] .id)
  |none=>
   match plain a ak s,plain b ak s with
   |some sa,some sb=>k ak (s.merge ak lr lo (c.sub' ak s) sa sb)
   |_,_=>
   bif ew a&&ew b then
    .ite (c.sub' ak s) (sx a ((c.sub' ak s,true)::ak) s (λak s'=>k ak (s.join lr lo s')) kx) (sx b ((c.sub' ak s,false)::ak) s (λak s'=>k ak (s.join lr lo s')) kx)
   else .iteS s (c.sub' ak s) lr lo (sx a [] .id (λ_ s=>.next s) (λ_ id s=>.exit id s)) (sx b [] .id (λ_ s=>.next s) (λ_ id s=>.exit id s)) (k [] .id)
 |.block id lr lo a,ak,s,k,kx=>
  bif ew a then sx a ak s (λak s'=>k ak (s.join lr lo s')) (λak cg s'=>bif Nat.beq cg id then k ak (s.join lr lo s') else kx ak cg s')
  else bif ahM a then .brk s (.block id lr lo a) (k [] .id)
  else .blockS s id lr lo (sx a [] .id (λ_ s=>.next s) (λ_ id s=>.exit id s)) (k [] .id)
 |.loop lr lo a,_,s,k,_=>.brk s (.loop lr lo a) (k [] .id)
 |.each e ps lo rt a,_,s,k,_=>.brk s (.each e ps lo rt a) (k [] .id)
 |.meach J ps dz lo a,_,s,k,_=>.brk s (.meach J ps dz lo a) (k [] .id)
 |.exit id,ak,s,_,kx=>kx ak id s
 |.ret e,ak,s,_,_=>.ret (e.sub' ak s)
def cv.ok_nil (Z:Env):cv.ok [] Z:=λ_ h=>nomatch h
def cv.ok_cons {ak:cv}{Z:Env}{e:PE}{b:Bool}(h:ak.ok Z)(he:(e.ev Z).b=b):cv.ok ((e,b)::ak) Z:=λx hx=>by
 rcases dG.1 hx with e'|hx
 .rw[e'];exact he
 .exact h x hx
def tH {T:cS}{Q:Out->Prop}{K:Env->Prop}{k:Kn}:∀{l:List PI} {ak:cv} {s:SE} {Z:Env},ak.ok Z->aL T (pC l ak s k) Z Q->
 (∀Z' ak s,(l.all qk=true->Z'=Z)->ak.ok Z'->aL T (k ak s) Z' Q->K (s.ev Z'))->iJ T l (s.ev Z) K
 |[],ak,s,Z,ha,h,hk=>hk Z ak s (λ_=>rfl) ha h
 |.setR t e::l,ak,s,Z,ha,h,hk=>by
  simp only[iJ];rw[<-PE.sub_ev ha s e,<-SE.setR_ev];exact tH ha h λZ' ak s hp=>hk Z' ak s λhl=>hp (by simpa [qk] using hl)
 |.setO t e::l,ak,s,Z,ha,h,hk=>by
  simp only[iJ];rw[<-PE.sub_ev ha s e,<-SE.setO_ev];exact tH ha h λZ' ak s hp=>hk Z' ak s λhl=>hp (by simpa [qk] using hl)
 |.chk e::l,ak,s,Z,ha,h,hk=>by
  simp only[iJ];rw[<-PE.sub_ev ha s e];simp only[pC] at h;split at h
  .rename_i ht;exact⟨AV ha ht,tH ha h λZ' ak s hp=>hk Z' ak s λhl=>hp (by simpa [qk] using hl)⟩
  .exact⟨h.1,tH (cv.ok_cons ha h.1) h.2 λZ' ak s hp=>hk Z' ak s λhl=>hp (by simpa [qk] using hl)⟩
 |.call gs dst f args::l,ak,s,Z,ha,h,hk=>by
  simp only[iJ];simp only[pC,aL,PE.subs_ev ha,PE.sub_ev ha] at h;have bu:∀{ρ0:Env},∀Z' ak s,(l.all qk=true->Z'=ρ0)->ak.ok Z'->aL T (k ak s) Z' Q->K (s.ev Z'):=λZ' ak s _=>hk Z' ak s λhl=>by simp[qk] at hl
  split at h
  .rename_i hg;rw[if_pos hg];obtain⟨d,hd,h⟩:=h;exact⟨d,hd,tH (s:=.id) (cv.ok_nil _) h bu⟩
  .rename_i hg;rw[if_neg hg];exact tH (s:=.id) (cv.ok_nil _) h bu
 |.callc gs dst e args::l,ak,s,Z,ha,h,hk=>by
  simp only[iJ];simp only[pC,aL,PE.subs_ev ha,PE.sub_ev ha] at h;have bu:∀{ρ0:Env},∀Z' ak s,(l.all qk=true->Z'=ρ0)->ak.ok Z'->aL T (k ak s) Z' Q->K (s.ev Z'):=λZ' ak s _=>hk Z' ak s λhl=>by simp[qk] at hl
  split at h
  .rename_i hg;rw[if_pos hg];obtain⟨f,caps,d,he,hd,h⟩:=h;exact⟨f,caps,d,he,hd,tH (s:=.id) (cv.ok_nil _) h bu⟩
  .rename_i hg;rw[if_neg hg];exact tH (s:=.id) (cv.ok_nil _) h bu
 |.mcall j f args::l,ak,s,Z,ha,h,hk=>by
  simp only[iJ];simp only[pC,aL,PE.subs_ev ha,PE.sub_ev ha] at h;have bu:∀{ρ0:Env},∀Z' ak s,(l.all qk=true->Z'=ρ0)->ak.ok Z'->aL T (k ak s) Z' Q->K (s.ev Z'):=λZ' ak s _=>hk Z' ak s λhl=>by simp[qk] at hl
  obtain⟨d,hd,h⟩:=h;exact⟨d,hd,tH (s:=.id) (cv.ok_nil _) h bu⟩
def SE.merge_ev {ak:cv}{Z:Env}(h:ak.ok Z)(s a b:SE)(lr lo:List Nat)(c:PE):(s.merge ak lr lo c a b).ev Z=(s.ev Z).join lr lo (if(c.ev Z).b=true then a.ev Z else b.ev Z):=by
 have h1:∀u,((s.merge ak lr lo c a b).getR u).ev Z=((s.ev Z).join lr lo (if(c.ev Z).b=true then a.ev Z else b.ev Z)).r u:=by
  intro u;rw[Env.join_r];have e:bV (s.merge ak lr lo c a b).r u=if u∈lr then some (ve ak c (a.getR u) (b.getR u)) else bV s.r u:=Al lr;have e2:(s.merge ak lr lo c a b).getR u=if u∈lr then ve ak c (a.getR u) (b.getR u) else s.getR u:=by
   unfold SE.getR;rw[e];by_cases h:u∈lr<;>simp[h,SE.getR]
  rw[e2];by_cases hu:u∈lr
  .simp only[hu,if_true,XB h,PE.ev];cases hc:(c.ev Z).b<;>simp[SE.ev]
  .simp only[hu,if_false];rfl
 have h2:∀u,((s.merge ak lr lo c a b).getO u).ev Z=((s.ev Z).join lr lo (if(c.ev Z).b=true then a.ev Z else b.ev Z)).o u:=by
  intro u;rw[Env.join_o];have e:bV (s.merge ak lr lo c a b).o u=if u∈lo then some (ve ak c (a.getO u) (b.getO u)) else bV s.o u:=Al lo;have e2:(s.merge ak lr lo c a b).getO u=if u∈lo then ve ak c (a.getO u) (b.getO u) else s.getO u:=by
   unfold SE.getO;rw[e];by_cases h:u∈lo<;>simp[h,SE.getO]
  rw[e2];by_cases hu:u∈lo
  .simp only[hu,if_true,XB h,PE.ev];cases hc:(c.ev Z).b<;>simp[SE.ev]
  .simp only[hu,if_false];rfl
 have e1:(λu=>((s.merge ak lr lo c a b).getR u).ev Z)=((s.ev Z).join lr lo (if(c.ev Z).b=true then a.ev Z else b.ev Z)).r:=funext h1;have e2:(λu=>((s.merge ak lr lo c a b).getO u).ev Z)=((s.ev Z).join lr lo (if(c.ev Z).b=true then a.ev Z else b.ev Z)).o:=funext h2;show Env.mk _ _=_;rw[e1,e2]
def XD {T:cS}{ak:cv}{Z:Env}(ha:ak.ok Z):∀{l:List PI} {s s':SE},rq l ak s=some s'->∀{K:Env->Prop},K (s'.ev Z)->iJ T l (s.ev Z) K
 |[],s,s',h,K,hk=>by simp only[rq,bx] at h;subst h;exact hk
 |.setR t e::l,s,s',h,K,hk=>by simp only[iJ];rw[<-PE.sub_ev ha s e,<-SE.setR_ev];exact XD (l:=l) ha (show rq l ak _=some s' from h) hk
 |.setO t e::l,s,s',h,K,hk=>by simp only[iJ];rw[<-PE.sub_ev ha s e,<-SE.setO_ev];exact XD (l:=l) ha (show rq l ak _=some s' from h) hk
 |.chk _::_,_,_,h,_,_=>by simp[rq] at h
 |.call ..::_,_,_,h,_,_=>by simp[rq] at h
 |.callc ..::_,_,_,h,_,_=>by simp[rq] at h
 |.mcall ..::_,_,_,h,_,_=>by simp[rq] at h
def aAE {T:cS}{ak:cv}{Z:Env}(ha:ak.ok Z):∀(c:PC) {s s':SE},plain c ak s=some s'->∀{Q:Out->Prop},Q (.next (s'.ev Z))->aG T c (s.ev Z) Q:=by
 intro c
 induction c with
 |skip=>intro s s' h Q hq;simp only[plain,bx] at h;subst h;exact .skip hq
 |is l=>intro s s' h Q hq;exact .is (XD ha h hq)
 |seq a b bS eW=>
  intro s s' h Q hq;simp only[plain,aJ] at h;obtain⟨s1,h1,h2⟩:=h;exact .seq (bS h1 (eW h2 hq))
 |ite c lr lo a b bS eW=>
  intro s s' h Q hq;simp only[plain,aJ,aT] at h;obtain⟨sa,h1,sb,h2,rfl⟩:=h;rw[SE.merge_ev ha,PE.sub_ev ha] at hq;refine .ite ?_;split
  .rename_i hc;rw[if_pos hc] at hq;exact bS h1 hq
  .rename_i hc;rw[if_neg hc] at hq;exact eW h2 hq
 |_=>intro s s' h;simp[plain] at h
def QL {T:cS}:∀(c:PC) {ak:cv} {s:SE} {k:Kn} {kx:Kx} {Z:Env} {Q Q':Out->Prop},ak.ok Z->aL T (sx c ak s k kx) Z Q->
 (∀Z' ak s,(ew c=true->Z'=Z)->ak.ok Z'->aL T (k ak s) Z' Q->Q' (.next (s.ev Z')))->
 (∀Z' ak id s,(ew c=true->Z'=Z)->ak.ok Z'->aL T (kx ak id s) Z' Q->Q' (.exit id (s.ev Z')))->(ew c=false->∀id Z',Q (.exit id Z')->Q' (.exit id Z'))->(∀d,Q (.ret d)->Q' (.ret d))->aG T c (s.ev Z) Q':=by
 intro c;have alone:∀(a:PC),(∀{ak:cv} {s:SE} {k:Kn} {kx:Kx} {Z:Env} {Q Q':Out->Prop},ak.ok Z->aL T (sx a ak s k kx) Z Q->
  (∀Z' ak s,(ew a=true->Z'=Z)->ak.ok Z'->aL T (k ak s) Z' Q->Q' (.next (s.ev Z')))->
  (∀Z' ak id s,(ew a=true->Z'=Z)->ak.ok Z'->aL T (kx ak id s) Z' Q->Q' (.exit id (s.ev Z')))->(ew a=false->∀id Z',Q (.exit id Z')->Q' (.exit id Z'))->(∀d,Q (.ret d)->Q' (.ret d))->aG T a (s.ev Z) Q')->
  ∀{Z:Env} {Q:Out->Prop},aL T (sx a [] .id (λ_ s=>.next s) (λ_ id s=>.exit id s)) Z Q->aG T a Z Q:=by
  intro a ih Z Q h;exact ih (s:=.id) (cv.ok_nil _) h (λZ' ak s _ _ h=>h) (λZ' ak id s _ _ h=>h) (λ_ _ _ h=>h) (λ_ h=>h)
 induction c with
 |skip=>intro ak s k kx Z Q Q' ha h hk _ _ _;exact .skip (hk Z ak s (λ_=>rfl) ha h)
 |is l=>intro ak s k kx Z Q Q' ha h hk _ _ _;exact .is (tH (K:=λZ'=>Q' (.next Z')) ha h hk)
 |seq a b bS eW=>
  intro ak s k kx Z Q Q' ha h hk hx dC hr;refine .seq (bS ha h (Q':=fV (λZ'=>aG T b Z' Q') Q') (λZ' ak s hp zu h'=>?_) (λZ' ak id s hp zu h'=>?_) (λhp=>?_) hr)
  .refine eW zu h' (λρ2 ak s fS=>hk ρ2 ak s λhl=>?_) (λρ2 ak id s fS=>hx ρ2 ak id s λhl=>?_) (λfS=>?_) hr
   .simp only[ew,aA] at hl;rw[fS hl.2,hp hl.1]
   .simp only[ew,aA] at hl;rw[fS hl.2,hp hl.1]
   .exact dC (by simp[ew,fS])
  .exact hx Z' ak id s (λhl=>by simp only[ew,aA] at hl;exact hp hl.1) zu h'
  .exact dC (by simp[ew,hp])
 |ite c lr lo a b bS eW=>
  intro ak s k kx Z Q Q' ha h hk hx dC hr;have cf:((c.sub' ak s).ev Z).b=(c.ev (s.ev Z)).b:=by rw[PE.sub_ev ha]
  have struct:(ew a&&ew b)=false->aL T (.iteS s (c.sub' ak s) lr lo (sx a [] .id (λ_ s=>.next s) (λ_ id s=>.exit id s)) (sx b [] .id (λ_ s=>.next s) (λ_ id s=>.exit id s)) (k [] .id)) Z Q->aG T (.ite c lr lo a b) (s.ev Z) Q':=by
   intro GR h;have q6:ew (.ite c lr lo a b)=false:=GR;simp only[aL,cf] at h
   have conv:∀x,lL (s.ev Z) lr lo (fV (λZ'=>aL T (k [] .id) Z' Q) Q) x->lL (s.ev Z) lr lo Q' x:=by
      intro x dE;cases x with
      |next Z'=>exact hk _ [] .id (λhl=>by rw[q6] at hl;cases hl) (cv.ok_nil _) dE
      |exit id Z'=>exact dC q6 id Z' dE
      |ret d=>exact hr d dE
   refine .ite ?_;split at h
   .rename_i hc;rw[if_pos hc];exact(alone a bS h).mono conv
   .rename_i hc;rw[if_neg hc];exact(alone b eW h).mono conv
  have inA:∀yU,yU.ok Z->ew a=true->aL T (sx a yU s (λak s'=>k ak (s.join lr lo s')) kx) Z Q->aG T a (s.ev Z) (lL (s.ev Z) lr lo Q'):=by
   intro yU zu eV h';refine bS zu h' (λZ' ak s' hp pS lz=>?_) (λZ' ak id s' hp pS lz=>?_) (λhp=>by rw[eV] at hp;cases hp) hr
   .have e:=hp eV;subst e;show Q' (.next _);rw[<-SE.join_ev];exact hk Z' ak _ (λ_=>rfl) pS lz
   .have e:=hp eV;subst e;exact hx Z' ak id s' (λ_=>rfl) pS lz
  have aB:∀yU,yU.ok Z->ew b=true->aL T (sx b yU s (λak s'=>k ak (s.join lr lo s')) kx) Z Q->aG T b (s.ev Z) (lL (s.ev Z) lr lo Q'):=by
   intro yU zu eV h';refine eW zu h' (λZ' ak s' hp pS lz=>?_) (λZ' ak id s' hp pS lz=>?_) (λhp=>by rw[eV] at hp;cases hp) hr
   .have e:=hp eV;subst e;show Q' (.next _);rw[<-SE.join_ev];exact hk Z' ak _ (λ_=>rfl) pS lz
   .have e:=hp eV;subst e;exact hx Z' ak id s' (λ_=>rfl) pS lz
  simp only[sx] at h;split at h
  .rename_i ht;cases eV:ew a<;>simp only[eV,zyv,zyu] at h
   .exact struct (by simp[eV]) h
   .refine .ite ?_;rw[if_pos (by rw[<-cf];exact AV ha ht)];exact inA ak ha eV h
  .rename_i ht;cases eV:ew b<;>simp only[eV,zyv,zyu] at h
   .exact struct (by simp[eV]) h
   .refine .ite ?_;rw[if_neg (by rw[<-cf,AV ha ht];simp)];exact aB ak ha eV h
  .split at h
   .rename_i sa sb GZ kM;have eL:plain (.ite c lr lo a b) ak s=some (s.merge ak lr lo (c.sub' ak s) sa sb):=by simp[plain,GZ,kM]
    exact aAE ha _ eL (hk Z ak _ (λ_=>rfl) ha h)
   cases eV:(ew a&&ew b)<;>simp only[eV,zyv,zyu] at h
   .exact struct eV h
   .simp only[aA] at eV;simp only[aL] at h;refine .ite ?_;rw[<-cf];split at h
    .rename_i hc;rw[if_pos hc];exact inA _ (cv.ok_cons ha hc) eV.1 h
    .rename_i hc;rw[if_neg hc];exact aB _ (cv.ok_cons ha (by simpa using hc)) eV.2 h
 |block id lr lo a bS=>
  intro ak s k kx Z Q Q' ha h hk hx dC hr;simp only[sx] at h;cases eV:ew a<;>simp only[eV,zyv,zyu] at h
  .have q6:ew (.block id lr lo a)=false:=eV;cases hl:ahM a<;>simp only[hl,zyv,zyu] at h
   case true=>
        simp only[aL] at h;refine aG.mono h λx dE=>?_;cases x with
        |next Z'=>exact hk _ [] .id (λhl=>by rw[q6] at hl;cases hl) (cv.ok_nil _) dE
        |exit id Z'=>exact dC q6 id Z' dE
        |ret d=>exact hr d dE
   simp only[aL] at h;refine .block ((alone a bS h).mono λx dE=>?_);cases x with
   |next Z'=>exact hk _ [] .id (λhl=>by rw[q6] at hl;cases hl) (cv.ok_nil _) dE
   |exit cg Z'=>
    simp only[mT] at dE ⊢;split
    .rename_i e;rw[if_pos e] at dE;exact hk _ [] .id (λhl=>by rw[q6] at hl;cases hl) (cv.ok_nil _) dE
    .rename_i e;rw[if_neg e] at dE;exact dC q6 cg Z' dE
   |ret d=>exact hr d dE
  .refine .block (bS ha h (λZ' ak s' hp pS lz=>?_) (λZ' ak cg s' hp pS lz=>?_) (λhp=>by rw[eV] at hp;cases hp) hr)
   .have e:=hp eV;subst e;show Q' (.next _);rw[<-SE.join_ev];exact hk Z' ak _ (λ_=>rfl) pS lz
   .have e:=hp eV;subst e;simp only[mT];by_cases cU:cg=id
    .subst cU;simp only[nO,zyv] at lz;rw[if_pos rfl,<-SE.join_ev];exact hk Z' ak _ (λ_=>rfl) pS lz
    .rw[gS cU,zyu] at lz;rw[if_neg cU];exact hx Z' ak cg s' (λ_=>rfl) pS lz
 |loop lr lo a bS=>
  intro ak s k kx Z Q Q' ha h hk hx dC hr;simp only[sx,aL] at h;refine aG.mono h λx dE=>?_;cases x with
  |next Z'=>exact hk _ [] .id (λhl=>by cases hl) (cv.ok_nil _) dE
  |exit id Z'=>exact dC rfl id Z' dE
  |ret d=>exact hr d dE
 |each e ps lo rt a bS=>
  intro ak s k kx Z Q Q' ha h hk hx dC hr;simp only[sx,aL] at h;refine aG.mono h λx dE=>?_;cases x with
  |next Z'=>exact hk _ [] .id (λhl=>by cases hl) (cv.ok_nil _) dE
  |exit id Z'=>exact dC rfl id Z' dE
  |ret d=>exact hr d dE
 |meach J ps dz lo a bS=>
  intro ak s k kx Z Q Q' ha h hk hx dC hr;simp only[sx,aL] at h;refine aG.mono h λx dE=>?_;cases x with
  |next Z'=>exact hk _ [] .id (λhl=>by cases hl) (cv.ok_nil _) dE
  |exit id Z'=>exact dC rfl id Z' dE
  |ret d=>exact hr d dE
 |exit id=>intro ak s k kx Z Q Q' ha h _ hx _ _;exact .exit (hx Z ak id s (λ_=>rfl) ha h)
 |ret e=>
  intro ak s k kx Z Q Q' ha h _ _ _ hr;simp only[sx,aL] at h;refine .ret (hr _ ?_);rw[PE.sub_ev ha] at h;exact h
def Lk.un (a b:Lk):Lk:=⟨Nat.lor a.r b.r,jZ a.o b.o⟩
def bits (l:List Nat):Nat:=l.foldr (λt m=>Nat.lor (ir t) m) 0
def Tf {l:List Nat}{t:Nat}(h:t∈l):aW (bits l) t=true:=by
 induction l with
 |nil=>cases h
 |cons x l ih=>
  show aW (Nat.lor (ir x) (bits l)) t=true;rw[gT];rcases dG.1 h with e|h
  .subst e;rw[sk];rfl
  .rw[ih h,tR]
def adK:∀{a b:List Nat} {x:Nat},x∈jZ a b↔x∈a\/x∈b
 |[],b,x=>by simp[jZ]
 |y::a,b,x=>by
  have ih:=adK (a:=a) (b:=bif gp b y then b else y::b) (x:=x);show x∈jZ a _↔_;rw[ih];cases hb:gp b y with
  |true=>simp only[zyv,dG];have:=(sV b y).1 hb;constructor
         .rintro(h|h);exact .inl (.inr h);exact .inr h
         .rintro((rfl|h)|h);exact .inr this;exact .inl h;exact .inr h
  |false=>simp only[zyu,dG];constructor
          .rintro(h|h|h);exact .inl (.inr h);exact .inl (.inl h);exact .inr h
          .rintro((h|h)|h);exact .inr (.inl h);exact .inl h;exact .inr (.inr h)
def Lk.Le (a K:Lk):Prop:=(∀t,aW a.r t=true->aW K.r t=true)/\∀j,j∈a.o->j∈K.o
def Lk.le_l (a b:Lk):a.Le (a.un b):=⟨λt h=>by simp only[Lk.un,gT,h,Ez],λj h=>adK.2 (.inl h)⟩
def Lk.le_r (a b:Lk):b.Le (a.un b):=⟨λt h=>by simp only[Lk.un,gT,h,tR],λj h=>adK.2 (.inr h)⟩
def Lk.Le.trans {a b c:Lk}(h:a.Le b)(k:b.Le c):a.Le c:=⟨λt ht=>k.1 t (h.1 t ht),λj hj=>k.2 j (h.2 j hj)⟩
def Alike.le {a K:Lk}{Z Z':Env}(h:Alike K Z Z')(k:a.Le K):Alike a Z Z':=⟨λt ht=>h.r t (k.1 t ht),λj hj=>h.o j (k.2 j hj)⟩
def Lk.Le.of_un {a b K:Lk}(h:(a.un b).Le K):a.Le K/\b.Le K:=⟨(Lk.le_l a b).trans h,(Lk.le_r a b).trans h⟩
def Alike.setR {K:Lk}{Z Z':Env}(h:Alike K Z Z')(t:Nat)(d:D):Alike K (Z.setR t d) (Z'.setR t d):=⟨λu hu=>by rw[Env.setR_r,Env.setR_r];split;rfl;exact h.r u hu,h.o⟩
def Alike.setO {K:Lk}{Z Z':Env}(h:Alike K Z Z')(t:Nat)(d:D):Alike K (Z.setO t d) (Z'.setO t d):=⟨h.r,λu hu=>by rw[Env.setO_o,Env.setO_o];split;rfl;exact h.o u hu⟩
def Alike.join {K:Lk}{Z Z' G G':Env}(h:Alike K Z Z')(k:Alike K G G')(lr lo:List Nat):Alike K (Z.join lr lo G) (Z'.join lr lo G'):=
 ⟨λu hu=>by rw[Env.join_r,Env.join_r];split;exact k.r u hu;exact h.r u hu,λu hu=>by rw[Env.join_o,Env.join_o];split;exact k.o u hu;exact h.o u hu⟩
def XF {f g:Nat->D}{u:Nat}(h:g u=f u):∀(ts:List Nat) (xs:List D),putL g ts xs u=putL f ts xs u
 |[],xs=>by rw[O7,O7];exact h
 |t::ts,[]=>by simp only[putL];exact h
 |t::ts,x::xs=>by rw[O6,O6];split;rfl;exact XF h ts xs
def Alike.put {K:Lk}{Z Z':Env}(h:Alike K Z Z')(lr lo:List Nat)(vr vo:List D):Alike K (Z.put lr vr lo vo) (Z'.put lr vr lo vo):=⟨λu hu=>XF (h.r u hu) lr vr,λu hu=>XF (h.o u hu) lo vo⟩
def PI.lkw:PI->Lk
 |.setR t e=>e.lk.un ⟨ir t,[]⟩
 |.setO j e=>e.lk.un ⟨0,[j]⟩
 |.chk e=>e.lk
 |.call gs dst f aa=>(PI.call gs dst f aa).lk.un ⟨ir dst,[]⟩
 |.callc gs dst e aa=>(PI.callc gs dst e aa).lk.un ⟨ir dst,[]⟩
 |.mcall j f aa=>(PI.mcall j f aa).lk.un ⟨0,[j]⟩
def PC.lk:PC->Lk
 |.skip=>.none
 |.exit _=>.none
 |.is l=>l.foldr (λp k=>p.lkw.un k) .none
 |.seq a b=>(PC.lk a).un (PC.lk b)
 |.ite c _ _ a b=>c.lk.un ((PC.lk a).un (PC.lk b))
 |.block _ _ _ a=>PC.lk a
 |.loop lr lo a=>(⟨bits lr,lo⟩:Lk).un (PC.lk a)
 |.ret e=>e.lk
 |.each e _ lo rt a=>e.lk.un ((match rt with|some e=>e.lk|none=>.none).un ((⟨0,lo⟩:Lk).un (PC.lk a)))
 |.meach J _ _ lo a=>(⟨0,J::lo⟩:Lk).un (PC.lk a)
structure Off (K:Lk) (b G G':Env):Prop where
 al:Alike K G G'
 r:∀t,aW K.r t=false->G'.r t=b.r t
 o:∀j,j∉K.o->G'.o j=b.o j
def vW (K:Lk)(b:Env):Out->Out->Prop
 |.next G,x=>∃G',x=.next G'/\Off K b G G'
 |.exit i G,x=>∃G',x=.exit i G'/\Off K b G G'
 |.ret d,x=>x=.ret d
def Off.uniq {K:Lk}{b G G' η2:Env}(h:Off K b G G')(k:Off K b G η2):η2=G':=by
 have h1:∀t,η2.r t=G'.r t:=λt=>by
  cases hb:aW K.r t with
  |true=>rw[k.al.r t hb,h.al.r t hb]
  |false=>rw[k.r t hb,h.r t hb]
 have h2:∀t,η2.o t=G'.o t:=λt=>by
  by_cases hb:t∈K.o
  .rw[k.al.o t hb,h.al.o t hb]
  .rw[k.o t hb,h.o t hb]
 cases η2;cases G'
 congr
 .exact funext h1
 .exact funext h2
def vW.uniq {K:Lk}{b:Env}{x y z:Out}(h:vW K b x y)(k:vW K b x z):z=y:=by
 cases x with
 |next G=>obtain⟨a,rfl,h⟩:=h;obtain⟨c,rfl,k⟩:=k;rw[h.uniq k]
 |exit i G=>obtain⟨a,rfl,h⟩:=h;obtain⟨c,rfl,k⟩:=k;rw[h.uniq k]
 |ret d=>rw[h,k]
def Off.setR {K:Lk}{b G G':Env}(h:Off K b G G'){t:Nat}(ht:aW K.r t=true)(d:D):Off K b (G.setR t d) (G'.setR t d):=
 ⟨h.al.setR t d,λu hu=>by rw[Env.setR_r,if_neg (λe=>by rw[e,ht] at hu;cases hu)];exact h.r u hu,h.o⟩
def Off.setO {K:Lk}{b G G':Env}(h:Off K b G G'){t:Nat}(ht:t∈K.o)(d:D):Off K b (G.setO t d) (G'.setO t d):=
 ⟨h.al.setO t d,h.r,λu hu=>by rw[Env.setO_o,if_neg (λe=>hu (by rw[e];exact ht))];exact h.o u hu⟩
def Off.join {K:Lk}{b G G' ζ ζ':Env}(h:Off K b G G')(k:Off K b ζ ζ')(lr lo:List Nat):Off K b (G.join lr lo ζ) (G'.join lr lo ζ'):=
 ⟨h.al.join k.al lr lo,λu hu=>by rw[Env.join_r];split;exact k.r u hu;exact h.r u hu,λu hu=>by rw[Env.join_o];split;exact k.o u hu;exact h.o u hu⟩
def XI {f:Nat->D}{b:D}{u:Nat}(h:f u=b):∀(ts:List Nat) (xs:List D),u∉ts->putL f ts xs u=b
 |[],xs,_=>by rw[O7];exact h
 |t::ts,[],_=>by simp only[putL];exact h
 |t::ts,x::xs,hu=>by rw[O6,if_neg (λe=>hu (by simp[e]))];exact XI h ts xs (λe=>hu (by simp[e]))
def Off.put {K:Lk}{b G G':Env}(h:Off K b G G'){lr lo:List Nat}(hr:∀t,t∈lr->aW K.r t=true)(ho:∀t,t∈lo->t∈K.o)(vr vo:List D):Off K b (G.put lr vr lo vo) (G'.put lr vr lo vo):=
 ⟨h.al.put lr lo vr vo,λu hu=>XI (h.r u hu) lr vr (λe=>by rw[hr u e] at hu;cases hu),λu hu=>XI (h.o u hu) lo vo (λe=>hu (ho u e))⟩
def PI.run_off {V:bf}{K:Lk}{b Z Z' G:Env}{p:PI}(hp:p.lkw.Le K)(h:Off K b Z Z')(hr:p.run V Z=some G):∃G',p.run V Z'=some G'/\Off K b G G':=by
 have uM:p.lk.Le K:=by cases p<;>first|exact hp|exact hp.of_un.1
 rw[PI.run_eff,PI.eff_alike p (h.al.le uM)];rw[PI.run_eff] at hr;cases he:p.eff V Z with
 |none=>rw[he] at hr;cases hr
 |some x=>
  rw[he] at hr;simp only[ll,bx] at hr;subst hr;refine⟨_,rfl,?_⟩;have hb:∀{t:Nat} {a:Lk},(a.un ⟨ir t,[]⟩).Le K->aW K.r t=true:=λh=>h.of_un.2.1 _ (sk _);have ho:∀{t:Nat} {a:Lk},(a.un ⟨0,[t]⟩).Le K->t∈K.o:=λh=>h.of_un.2.2 _ (by simp);cases p with
  |setR t e=>simp only[PI.eff,bx] at he;subst he;exact h.setR (hb hp) _
  |setO t e=>simp only[PI.eff,bx] at he;subst he;exact h.setO (ho hp) _
  |chk e=>simp only[PI.eff] at he;cases zy:(e.ev Z).b<;>rw[zy] at he<;>cases he;exact h
  |call gs d f aa=>
   simp only[PI.eff] at he;cases zy:holds gs Z<;>simp only[zy,zyv,zyu,bx,aT] at he
   .subst he;exact h
   .obtain⟨y,_,rfl⟩:=he;exact h.setR (hb hp) _
  |callc gs d e aa=>
   simp only[PI.eff] at he;cases zy:holds gs Z<;>simp only[zy,zyv,zyu,bx] at he
   .subst he;exact h
   .split at he
    .simp only[aT] at he;obtain⟨y,_,rfl⟩:=he;exact h.setR (hb hp) _
    .cases he
  |mcall j f aa=>simp only[PI.eff,aT] at he;obtain⟨y,_,rfl⟩:=he;exact h.setO (ho hp) _
def PI.runs_off {V:bf}{K:Lk}{b:Env}:∀{l:List PI} {Z Z' G:Env},(l.foldr (λp k=>p.lkw.un k) Lk.none).Le K->Off K b Z Z'->PI.runs V l Z=some G->∃G',PI.runs V l Z'=some G'/\Off K b G G'
 |[],Z,Z',G,_,h,hr=>by simp only[PI.runs,bx] at hr ⊢;subst hr;exact⟨_,rfl,h⟩
 |p::l,Z,Z',G,hl,h,hr=>by
  simp only[PI.runs,aJ] at hr;obtain⟨ρ1,h1,h2⟩:=hr;obtain⟨ρ2,h3,h4⟩:=PI.run_off hl.of_un.1 h h1;obtain⟨G',h5,h6⟩:=PI.runs_off (l:=l) hl.of_un.2 h4 h2;exact⟨G',by simp only[PI.runs,h3,yP,h5],h6⟩
def Ao {K:Lk}{b G G':Env}(h:Off K b G G'){lo:List Nat}(ho:∀t,t∈lo->t∈K.o):lo.map G'.o=lo.map G.o:=Ba λt ht=>h.al.o t (ho t ht)
def aiv {K:Lk}{b G G':Env}(h:Off K b G G'){lr:List Nat}(hr:∀t,t∈lr->aW K.r t=true):lr.map G'.r=lr.map G.r:=Ba λt ht=>h.al.r t (hr t ht)
def PC.ev_off {V:bf}{n:Nat}{K:Lk}:∀(c:PC),c.lk.Le K->∀{b Z Z':Env} {x:Out},Off K b Z Z'->c.ev V n Z=some x->∃x',c.ev V n Z'=some x'/\vW K b x x':=by
 intro c
 induction c with
 |skip=>intro _ b Z Z' x h hr;simp only[PC.ev,bx] at hr ⊢;subst hr;exact⟨_,rfl,_,rfl,h⟩
 |exit id=>intro _ b Z Z' x h hr;simp only[PC.ev,bx] at hr ⊢;subst hr;exact⟨_,rfl,_,rfl,h⟩
 |ret e=>intro hk B Z Z' x h hr;simp only[PC.ev,bx] at hr ⊢;subst hr;exact⟨_,rfl,by rw[PE.ev_alike e (h.al.le hk)];rfl⟩
 |is l=>
  intro hk B Z Z' x h hr;simp only[PC.ev,aT] at hr;obtain⟨G,h1,rfl⟩:=hr;obtain⟨G',h2,h3⟩:=PI.runs_off hk h h1;exact⟨.next G',by simp only[PC.ev,h2,ll],G',rfl,h3⟩
 |seq a b bS eW=>
  intro hk B Z Z' x h hr;simp only[PC.ev] at hr ⊢;cases ha:a.ev V n Z with
  |none=>rw[ha] at hr;cases hr
  |some y=>
   obtain⟨y',h1,h2⟩:=bS hk.of_un.1 h ha;rw[ha] at hr;rw[h1];cases y with
   |next G=>obtain⟨G',rfl,h3⟩:=h2;exact eW hk.of_un.2 h3 hr
   |exit i G=>obtain⟨G',rfl,h3⟩:=h2;cases hr;exact⟨_,rfl,G',rfl,h3⟩
   |ret d=>cases h2;cases hr;exact⟨_,rfl,rfl⟩
 |ite c lr lo a b bS eW=>
  intro hk B Z Z' x h hr;have hc:(c.ev Z').b=(c.ev Z).b:=by rw[PE.ev_alike c (h.al.le hk.of_un.1)]
  have key:∀(d:PC),(∀{Z Z':Env} {x:Out},Off K B Z Z'->d.ev V n Z=some x->∃x',d.ev V n Z'=some x'/\vW K B x x')->(match d.ev V n Z with|some (.next G)=>some (.next (Z.join lr lo G))|x=>x)=some x->
      ∃x',(match d.ev V n Z' with|some (.next G)=>some (.next (Z'.join lr lo G))|x=>x)=some x'/\vW K B x x':=by
   intro d ih hr;cases ha:d.ev V n Z with
   |none=>rw[ha] at hr;cases hr
   |some y=>
    obtain⟨y',h1,h2⟩:=ih h ha;rw[ha] at hr;rw[h1];cases y with
    |next G=>obtain⟨G',rfl,h3⟩:=h2;cases hr;exact⟨_,rfl,_,rfl,h.join h3 lr lo⟩
    |exit i G=>obtain⟨G',rfl,h3⟩:=h2;cases hr;exact⟨_,rfl,G',rfl,h3⟩
    |ret d=>cases h2;cases hr;exact⟨_,rfl,rfl⟩
  simp only[PC.ev,hc] at hr ⊢;cases jt:(c.ev Z).b<;>simp only[jt,zyv,zyu] at hr ⊢
  .exact key b (λh1 h2=>eW hk.of_un.2.of_un.2 h1 h2) hr
  .exact key a (λh1 h2=>bS hk.of_un.2.of_un.1 h1 h2) hr
 |block id lr lo a bS=>
  intro hk B Z Z' x h hr;simp only[PC.ev] at hr ⊢;cases ha:a.ev V n Z with
  |none=>rw[ha] at hr;cases hr
  |some y=>
   obtain⟨y',h1,h2⟩:=bS hk h ha;rw[ha] at hr;rw[h1];cases y with
   |next G=>obtain⟨G',rfl,h3⟩:=h2;cases hr;exact⟨_,rfl,_,rfl,h.join h3 lr lo⟩
   |exit i G=>
    obtain⟨G',rfl,h3⟩:=h2;simp only at hr ⊢;cases hb:Nat.beq i id<;>simp only[hb,zyv,zyu] at hr ⊢<;>cases hr
    .exact⟨_,rfl,G',rfl,h3⟩
    .exact⟨_,rfl,_,rfl,h.join h3 lr lo⟩
   |ret d=>cases h2;cases hr;exact⟨_,rfl,rfl⟩
 |loop lr lo a bS=>
  intro hk B Z Z' x h hr;have p5:∀t,t∈lr->aW K.r t=true:=λt ht=>hk.of_un.1.1 t (Tf ht);have kl:∀t,t∈lo->t∈K.o:=λt ht=>hk.of_un.1.2 t ht;have key:∀(m:Nat) (vr vo:List D),iY (a.ev V n) Z lr lo m vr vo=some x->∃x',iY (a.ev V n) Z' lr lo m vr vo=some x'/\vW K B x x':=by
   intro m
   induction m with
   |zero=>intro vr vo h;simp[iY] at h
   |succ m VK=>
    intro vr vo hr;simp only[iY] at hr ⊢;cases ha:a.ev V n (Z.put lr vr lo vo) with
    |none=>rw[ha] at hr;cases hr
    |some y=>
     obtain⟨y',h1,h2⟩:=bS hk.of_un.2 (h.put p5 kl vr vo) ha;rw[ha] at hr;rw[h1];cases y with
     |next G=>obtain⟨G',rfl,h3⟩:=h2;simp only[Ao h3 kl,aiv h3 p5];exact VK _ _ hr
     |exit i G=>obtain⟨G',rfl,h3⟩:=h2;cases hr;exact⟨_,rfl,G',rfl,h3⟩
     |ret d=>cases h2;cases hr;exact⟨_,rfl,rfl⟩
  simp only[PC.ev] at hr ⊢;rw[Ao h kl,aiv h p5];exact key n _ _ hr
 |each e ps lo rt a bS=>
  intro hk B Z Z' x h hr;obtain⟨bC,dq⟩:=hk.of_un;obtain⟨dq,kj⟩:=dq.of_un;obtain⟨kj,Da⟩:=kj.of_un;have kl:∀t,t∈lo->t∈K.o:=λt ht=>kj.2 t ht;have key:∀(xs vo:List D),jn (a.ev V n) Z ps lo rt xs vo=some x->∃x',jn (a.ev V n) Z' ps lo rt xs vo=some x'/\vW K B x x':=by
   intro xs
   induction xs with
   |nil=>intro vo hr;simp only[jn,bx] at hr ⊢;subst hr;exact⟨_,rfl,_,rfl,h.put (λ_ h=>by cases h) kl _ _⟩
   |cons y xs jR=>
    intro vo hr;simp only[jn] at hr ⊢;cases ha:a.ev V n (Z.put ps (partsOf ps y) lo vo) with
    |none=>rw[ha] at hr;cases hr
    |some z=>
     have jP:Off K (Z'.put ps (partsOf ps y) lo vo) (Z.put ps (partsOf ps y) lo vo) (Z'.put ps (partsOf ps y) lo vo):=⟨h.al.put ps lo _ _,λ_ _=>rfl,λ_ _=>rfl⟩
     obtain⟨z',h1,h2⟩:=bS Da jP ha;rw[ha] at hr;rw[h1];cases z with
     |next G=>obtain⟨G',rfl,h3⟩:=h2;simp only[Ao h3 kl];exact jR _ hr
     |exit i G=>
      obtain⟨G',rfl,h3⟩:=h2;simp only[Ao h3 kl] at hr ⊢;have hp:=h.put (lr:=[]) (λ_ h=>by cases h) kl [] (lo.map G.o);cases hb:Nat.beq i db<;>simp only[hb,zyv,zyu] at hr ⊢
      .cases hr;exact⟨_,rfl,_,rfl,hp⟩
      .cases rt with
       |none=>cases hr
       |some e2=>cases hr;exact⟨_,rfl,by show Out.ret _=Out.ret _;rw[PE.ev_alike e2 (hp.al.le dq)]⟩
     |ret d=>cases hr
  simp only[PC.ev] at hr ⊢;rw[PE.ev_alike e (h.al.le bC),Ao h kl];exact key _ _ hr
 |meach J ps dz lo a bS=>
  intro hk B Z Z' x h hr;obtain⟨kj,Da⟩:=hk.of_un;have kl:∀t,t∈lo->t∈K.o:=λt ht=>kj.2 t (fY _ ht);have hJ:Z'.o J=Z.o J:=h.al.o J (kj.2 J (gy ..));have key:∀(es:D) (xs done vo tM:List D),qj (a.ev V n) Z J es ps dz lo xs done vo=some tM->qj (a.ev V n) Z' J es ps dz lo xs done vo=some tM:=by
   intro es xs
   induction xs with
   |nil=>intro done vo tM h;exact h
   |cons y xs jR=>
    intro done vo tM hr;simp only[qj] at hr ⊢;cases ha:a.ev V n ((Z.put ps (dz.map y.tget) lo vo).setO J (.tup [.list (done++[y]),es])) with
    |none=>rw[ha] at hr;cases hr
    |some z=>
     have jP:Off K ((Z'.put ps (dz.map y.tget) lo vo).setO J (.tup [.list (done++[y]),es])) ((Z.put ps (dz.map y.tget) lo vo).setO J (.tup [.list (done++[y]),es])) ((Z'.put ps (dz.map y.tget) lo vo).setO J (.tup [.list (done++[y]),es])):=
          ⟨(h.al.put ps lo _ _).setO J _,λ_ _=>rfl,λ_ _=>rfl⟩
     obtain⟨z',h1,h2⟩:=bS Da jP ha;rw[ha] at hr;rw[h1];cases z with
     |next G=>obtain⟨G',rfl,h3⟩:=h2;simp only[Ao h3 kl];exact jR _ _ _ hr
     |exit i G=>cases hr
     |ret d=>cases hr
  simp only[PC.ev,DS] at hr;obtain⟨vo,⟨h1,h2⟩,rfl⟩:=hr;refine⟨.next (Z'.put [] [] lo vo),?_,_,rfl,h.put (λ_ h=>by cases h) kl _ _⟩;simp only[PC.ev,DS];refine⟨vo,⟨by rw[hJ];exact h1,λys hy=>?_⟩,rfl⟩;rw[hJ] at hy ⊢;rw[Ao h kl];exact key _ _ _ _ _ (h2 ys hy)
def pP:List Nat->PC->Bool
 |l,.exit id=>gp l id
 |l,.seq a b=>pP l a&&pP l b
 |l,.ite _ _ _ a b=>pP l a&&pP l b
 |l,.block id _ _ a=>pP (id::l) a
 |l,.loop _ _ a=>pP l a
 |l,.each _ _ _ _ a=>pP (db::l) a
 |_,_=>true
def arR {V:bf}{n:Nat}:∀(c:PC) {l:List Nat},pP l c=true->∀{Z:Env} {i:Nat} {G:Env},c.ev V n Z=some (.exit i G)->i∈l:=by
 intro c
 induction c with
 |skip=>intro l _ Z i G h;simp[PC.ev] at h
 |exit id=>intro l hl Z i G h;simp only[PC.ev,bx] at h;injection h with h1 h2;subst h1;exact(sV _ _).1 hl
 |ret e=>intro l _ Z i G h;simp[PC.ev] at h
 |is _=>intro l _ Z i G h;simp[PC.ev] at h
 |seq a b bS eW=>
  intro l hl Z i G h;simp only[pP,aA] at hl;simp only[PC.ev] at h;split at h
  .exact eW hl.2 h
  .exact bS hl.1 h
 |ite c lr lo a b bS eW=>
  intro l hl Z i G h;simp only[pP,aA] at hl;simp only[PC.ev] at h;cases hc:(c.ev Z).b<;>simp only[hc,zyv,zyu] at h
  .split at h
   .cases h
   .exact eW hl.2 h
  .split at h
   .cases h
   .exact bS hl.1 h
 |block id lr lo a bS=>
  intro l hl Z i G h;simp only[PC.ev] at h;split at h
  .cases h
  .rename_i cg ρ2 ha;cases hb:Nat.beq cg id<;>simp only[hb,zyv,zyu] at h<;>cases h;rcases dG.1 (bS hl ha) with e|e
   .subst e;rw[nO] at hb;cases hb
   .exact e
  .rename_i h1 h2;exact absurd h (h2 _ _)
 |loop lr lo a bS=>
  intro l hl Z i G h;have key:∀(m:Nat) (vr vo:List D),iY (a.ev V n) Z lr lo m vr vo=some (.exit i G)->i∈l:=by
   intro m
   induction m with
   |zero=>intro vr vo h;simp[iY] at h
   |succ m VK=>
    intro vr vo h;simp only[iY] at h;split at h
    .exact VK _ _ h
    .exact bS hl h
  exact key _ _ _ h
 |each e ps lo rt a bS=>
  intro l hl Z i G h;have key:∀(xs vo:List D),jn (a.ev V n) Z ps lo rt xs vo=some (.exit i G)->i∈l:=by
   intro xs
   induction xs with
   |nil=>intro vo h;simp[jn] at h
   |cons x xs jR=>
    intro vo h;simp only[jn] at h;split at h
    .exact jR _ h
    .rename_i cg ρ2 ha;cases hb:Nat.beq cg db<;>simp only[hb,zyv,zyu] at h
     .injection h with h;injection h with h1 h2;subst h1
      rcases dG.1 (bS hl ha) with e|e
      .subst e;rw[nO] at hb;cases hb
      .exact e
     .cases rt<;>simp at h
    .cases h
  exact key _ _ h
 |meach J ps dz lo a _=>
  intro l _ Z i G h;simp only[PC.ev,DS] at h;obtain⟨vo,_,h⟩:=h;cases h
def ahJ (t:Nat):PE->Bool
 |.r u=>Nat.beq u t
 |_=>false
def ahK (t:Nat):PE->Bool
 |.o u=>Nat.beq u t
 |_=>false
def fk (p8:Nat->PE->Bool)(p:Nat->Bool):List Nat->List (Nat×PE)->List (Nat×PE)
 |_,[]=>[]
 |seen,x::l=>bif p x.1&& !gp seen x.1 then(bif p8 x.1 x.2 then fk p8 p (x.1::seen) l else x::fk p8 p (x.1::seen) l) else fk p8 p seen l
def M6 {p8:Nat->PE->Bool}{p:Nat->Bool}:∀{l:List (Nat×PE)} {seen:List Nat} {t:Nat},gp seen t=true->bV (fk p8 p seen l) t=none
 |[],_,_,_=>rfl
 |x::l,seen,t,h=>by
  have h':gp (x.1::seen) t=true:=by rw[sV] at h ⊢;exact fY _ h
  simp only[fk];cases hb:(p x.1&& !gp seen x.1) with
  |false=>exact M6 h
  |true=>
   simp only[zyv];cases p8 x.1 x.2 with
   |true=>exact M6 h'
   |false=>
    simp only[zyu,bV];have:Nat.beq x.1 t=false:=by
      cases e:Nat.beq x.1 t with
      |false=>rfl
      |true=>rw[dP e,h] at hb;simp at hb
    rw[this];exact M6 h'
def F8 {p8:Nat->PE->Bool}{p:Nat->Bool}{dflt:Nat->PE}(cU:∀t e,p8 t e=true->e=dflt t):∀{l:List (Nat×PE)} {seen:List Nat} {t:Nat},p t=true->gp seen t=false->
 (match bV (fk p8 p seen l) t with|some e=>e|none=>dflt t)=(match bV l t with|some e=>e|none=>dflt t)
 |[],_,_,_,_=>rfl
 |x::l,seen,t,hp,hs=>by
  simp only[fk,bV];cases e:Nat.beq x.1 t with
  |true=>
   have e':=dP e;rw[e',hp,hs];simp only[Bool.not_false,Bool.and_self,zyv];cases hi:p8 t x.2 with
   |true=>simp only[zyv];rw[M6 (by rw[sV];exact gy ..)];exact(cU _ _ hi).symm
   |false=>simp only[zyu,bV,e,zyv]
  |false=>
   simp only[zyu];cases hb:(p x.1&& !gp seen x.1) with
   |false=>exact F8 cU hp hs
   |true=>
    have ei:gp (x.1::seen) t=false:=by
      cases hm:gp (x.1::seen) t with
      |false=>rfl
      |true=>
       rcases dG.1 ((sV _ _).1 hm) with h|h
       .rw[h,nO] at e;cases e
       .rw[(sV _ _).2 h] at hs;cases hs
    simp only[zyv];cases p8 x.1 x.2 with
    |true=>exact F8 cU hp ei
    |false=>simp only[zyu,bV,e];exact F8 cU hp ei
def SE.cut (s:SE)(k:Lk):SE:=⟨fk ahJ (aW k.r) [] s.r,fk ahK (gp k.o) [] s.o⟩
def VS (l:List (Nat×PE)):Lk:=l.foldr (λx k=>x.2.lk.un k) .none
def SE.lks (s:SE):Lk:=(VS s.r).un (VS s.o)
def VT:∀{l:List (Nat×PE)} {t:Nat} {e:PE},bV l t=some e->e.lk.Le (VS l)
 |[],_,_,h=>by cases h
 |x::l,t,e,h=>by
  simp only[bV] at h;cases hb:Nat.beq x.1 t<;>simp only[hb,zyv,zyu] at h
  .exact(VT h).trans (Lk.le_r _ _)
  .cases h;exact Lk.le_l _ _
def SE.cut_al {s:SE}{L:Lk}{ρ1 ρ2:Env}(h:Alike (L.un (s.cut L).lks) ρ1 ρ2):Alike L ((s.cut L).ev ρ1) (s.ev ρ2):=by
 have hL:=h.le (Lk.le_l _ _);have hs:=h.le (Lk.le_r _ _);constructor
 .intro t ht;show(s.getR t).ev ρ2=((s.cut L).getR t).ev ρ1;have e:(s.cut L).getR t=s.getR t:=F8 (dflt:=.r) (λt e he=>by unfold ahJ at he;split at he;rw[dP he];cases he) ht rfl;rw[<-e];cases hl:bV (s.cut L).r t with
  |none=>have:(s.cut L).getR t=.r t:=by unfold SE.getR;rw[hl]
         rw[this];exact hL.r t ht
  |some x=>have:(s.cut L).getR t=x:=by unfold SE.getR;rw[hl]
           rw[this];exact PE.ev_alike x (hs.le ((VT hl).trans (Lk.le_l _ _)))
 .intro t ht;show(s.getO t).ev ρ2=((s.cut L).getO t).ev ρ1;have e:(s.cut L).getO t=s.getO t:=F8 (dflt:=.o) (λt e he=>by unfold ahK at he;split at he;rw[dP he];cases he) ((sV _ _).2 ht) rfl;rw[<-e];cases hl:bV (s.cut L).o t with
  |none=>have:(s.cut L).getO t=.o t:=by unfold SE.getO;rw[hl]
         rw[this];exact hL.o t ht
  |some x=>have:(s.cut L).getO t=x:=by unfold SE.getO;rw[hl]
           rw[this];exact PE.ev_alike x (hs.le ((VT hl).trans (Lk.le_r _ _)))
structure LC where
 next:Lk
 ov:List (Nat×Lk)
def LC.all (c:LC):Lk:=c.ov.foldr (λx k=>x.2.un k) .none
def RL (c:LC)(Q1 Q2:Out->Prop):Prop:=
 (∀ρ1 ρ2,Alike c.next ρ1 ρ2->Q1 (.next ρ1)->Q2 (.next ρ2))/\(∀id k ρ1 ρ2,bV c.ov id=some k->Alike k ρ1 ρ2->Q1 (.exit id ρ1)->Q2 (.exit id ρ2))/\∀d,Q1 (.ret d)->Q2 (.ret d)
def gr:LC->PT->Option (PT×Lk)
 |c,.next s=>some (.next (s.cut c.next),c.next.un (s.cut c.next).lks)
 |c,.exit id s=>(bV c.ov id).map λk=>(.exit id (s.cut k),k.un (s.cut k).lks)
 |_,.ret e=>some (.ret e,e.lk)
 |c,.chk e k=>(gr c k).map λr=>(.chk e r.1,e.lk.un r.2)
 |c,.ite e a b=>(gr c a).bind λx=>(gr c b).map λy=>(.ite e x.1 y.1,e.lk.un (x.2.un y.2))
 |c,.call s gs dst f args k=>(gr c k).map λr=>(.call (s.cut (r.2.un (mX gs))) gs dst f args r.1,(PE.lks args).un ((r.2.un (mX gs)).un (s.cut (r.2.un (mX gs))).lks))
 |c,.callc s gs dst e args k=>(gr c k).map λr=>(.callc (s.cut (r.2.un (mX gs))) gs dst e args r.1,(e.lk.un (PE.lks args)).un ((r.2.un (mX gs)).un (s.cut (r.2.un (mX gs))).lks))
 |c,.mcall s j f args k=>(gr c k).map λr=>(.mcall (s.cut r.2) j f args r.1,(PE.lks args).un (r.2.un (s.cut r.2).lks))
 |c,.iteS s e lr lo a b k=>(gr c k).bind λr=>(gr ⟨r.2,c.ov⟩ a).bind λx=>(gr ⟨r.2,c.ov⟩ b).map λy=>
    (.iteS (s.cut (r.2.un (x.2.un y.2))) e lr lo x.1 y.1 r.1,e.lk.un ((r.2.un (x.2.un y.2)).un (s.cut (r.2.un (x.2.un y.2))).lks))
 |c,.blockS s id lr lo a k=>(gr c k).bind λr=>(gr ⟨r.2,(id,r.2)::c.ov⟩ a).map λx=>(.blockS (s.cut (r.2.un x.2)) id lr lo x.1 r.1,(r.2.un x.2).un (s.cut (r.2.un x.2)).lks)
 |c,.brk s p k=>(gr c k).bind λr=>bif pP (c.ov.map (·.1)) p then some (.brk (s.cut (p.lk.un (r.2.un c.all))) p r.1,(p.lk.un (r.2.un c.all)).un (s.cut (p.lk.un (r.2.un c.all))).lks) else none
def LC.all_le:∀{l:List (Nat×Lk)} {id:Nat} {k:Lk},bV l id=some k->k.Le (l.foldr (λx k=>x.2.un k) .none)
 |[],_,_,h=>by cases h
 |x::l,t,e,h=>by
  simp only[bV] at h;cases hb:Nat.beq x.1 t<;>simp only[hb,zyv,zyu] at h
  .exact(LC.all_le h).trans (Lk.le_r _ _)
  .cases h;exact Lk.le_l _ _
def ah8:∀{l:List (Nat×Lk)} {id:Nat},id∈l.map (·.1)->∃k,bV l id=some k
 |[],_,h=>by cases h
 |x::l,id,h=>by
  simp only[bV];cases hb:Nat.beq x.1 id with
  |true=>exact⟨_,rfl⟩
  |false=>
   simp only[zyu];rcases dG.1 h with e|h
   .rw[e,nO] at hb;cases hb
   .exact ah8 h
def aAK {T:cS}:∀(t:PT) {c:LC} {t':PT} {L:Lk},gr c t=some (t',L)->∀{Q1 Q2:Out->Prop} {ρ1 ρ2:Env},RL c Q1 Q2->Alike L ρ1 ρ2->aL T t' ρ1 Q1->aL T t ρ2 Q2:=by
 intro t
 induction t with
 |next s=>
  intro c t' L hp Q1 Q2 ρ1 ρ2 hQ hA h;simp only[gr,bx,pJ] at hp;obtain⟨rfl,rfl⟩:=hp;exact hQ.1 _ _ (SE.cut_al hA) h
 |exit id s=>
  intro c t' L hp Q1 Q2 ρ1 ρ2 hQ hA h;simp only[gr,aT,pJ] at hp;obtain⟨k,hk,rfl,rfl⟩:=hp;exact hQ.2.1 _ k _ _ hk (SE.cut_al hA) h
 |ret e=>
  intro c t' L hp Q1 Q2 ρ1 ρ2 hQ hA h;simp only[gr,bx,pJ] at hp;obtain⟨rfl,rfl⟩:=hp;show Q2 (.ret (e.ev ρ2));rw[PE.ev_alike e hA];exact hQ.2.2 _ h
 |chk e k ih=>
  intro c t' L hp Q1 Q2 ρ1 ρ2 hQ hA h;simp only[gr,aT,pJ] at hp;obtain⟨r,hr,rfl,rfl⟩:=hp;exact⟨by rw[PE.ev_alike e (hA.le (Lk.le_l _ _))];exact h.1,ih hr hQ (hA.le (Lk.le_r _ _)) h.2⟩
 |ite e a b bS eW=>
  intro c t' L hp Q1 Q2 ρ1 ρ2 hQ hA h;simp only[gr,aJ,aT,pJ] at hp;obtain⟨x,hx,y,hy,rfl,rfl⟩:=hp;have h2:=hA.le (Lk.le_r _ _);simp only[aL] at h ⊢;rw[PE.ev_alike e (hA.le (Lk.le_l _ _))];split
  .rename_i hc;rw[if_pos hc] at h;exact bS hx hQ (h2.le (Lk.le_l _ _)) h
  .rename_i hc;rw[if_neg hc] at h;exact eW hy hQ (h2.le (Lk.le_r _ _)) h
 |call s gs dst f args k ih=>
  intro c t' L hp Q1 Q2 ρ1 ρ2 hQ hA h;simp only[gr,aT,pJ] at hp;obtain⟨r,hr,rfl,rfl⟩:=hp;have hS:=SE.cut_al (hA.le (Lk.le_r _ _));simp only[aL] at h ⊢;rw[PE.evs_alike args (hA.le (Lk.le_l _ _)),Dg (hS.le (Lk.le_r _ _))];split
  .rename_i hc;rw[if_pos hc] at h;obtain⟨d,hd,h⟩:=h;exact⟨d,hd,ih hr hQ ((hS.le (Lk.le_l _ _)).setR dst d) h⟩
  .rename_i hc;rw[if_neg hc] at h;exact ih hr hQ (hS.le (Lk.le_l _ _)) h
 |callc s gs dst e args k ih=>
  intro c t' L hp Q1 Q2 ρ1 ρ2 hQ hA h;simp only[gr,aT,pJ] at hp;obtain⟨r,hr,rfl,rfl⟩:=hp;have hS:=SE.cut_al (hA.le (Lk.le_r _ _));have hE:=hA.le (Lk.le_l _ _);simp only[aL] at h ⊢;rw[PE.ev_alike e (hE.le (Lk.le_l _ _)),PE.evs_alike args (hE.le (Lk.le_r _ _)),Dg (hS.le (Lk.le_r _ _))];split
  .rename_i hc;rw[if_pos hc] at h;obtain⟨f,caps,d,he,hd,h⟩:=h;exact⟨f,caps,d,he,hd,ih hr hQ ((hS.le (Lk.le_l _ _)).setR dst d) h⟩
  .rename_i hc;rw[if_neg hc] at h;exact ih hr hQ (hS.le (Lk.le_l _ _)) h
 |mcall s j f args k ih=>
  intro c t' L hp Q1 Q2 ρ1 ρ2 hQ hA h;simp only[gr,aT,pJ] at hp;obtain⟨r,hr,rfl,rfl⟩:=hp;have hS:=SE.cut_al (hA.le (Lk.le_r _ _));simp only[aL] at h ⊢;rw[PE.evs_alike args (hA.le (Lk.le_l _ _))];obtain⟨d,hd,h⟩:=h;exact⟨d,hd,ih hr hQ (hS.setO j d) h⟩
 |iteS s e lr lo a b k bS eW kO=>
  intro c t' L hp Q1 Q2 ρ1 ρ2 hQ hA h;simp only[gr,aJ,aT,pJ] at hp;obtain⟨r,hr,x,hx,y,hy,rfl,rfl⟩:=hp;have hS:=SE.cut_al (hA.le (Lk.le_r _ _));have Nn:=hS.le (Lk.le_l _ _);have Gi:=hS.le ((Lk.le_l _ _).trans (Lk.le_r _ _));have hSy:=hS.le ((Lk.le_r _ _).trans (Lk.le_r _ _))
  have rel:RL ⟨r.2,c.ov⟩ (lL ((s.cut (r.2.un (x.2.un y.2))).ev ρ1) lr lo (fV (λZ'=>aL T r.1 Z' Q1) Q1)) (lL (s.ev ρ2) lr lo (fV (λZ'=>aL T k Z' Q2) Q2)):=
   ⟨λη1 η2 ha hq=>kO hr hQ (Nn.join ha lr lo) hq,λid k' η1 η2 hk ha hq=>hQ.2.1 id k' _ _ hk ha hq,λd hq=>hQ.2.2 d hq⟩
  simp only[aL] at h ⊢;rw[PE.ev_alike e (hA.le (Lk.le_l _ _))];split
  .rename_i hc;rw[if_pos hc] at h;exact bS hx rel Gi h
  .rename_i hc;rw[if_neg hc] at h;exact eW hy rel hSy h
 |blockS s id lr lo a k bS kO=>
  intro c t' L hp Q1 Q2 ρ1 ρ2 hQ hA h;simp only[gr,aJ,aT,pJ] at hp;obtain⟨r,hr,x,hx,rfl,rfl⟩:=hp;have hS:=SE.cut_al hA;have Nn:=hS.le (Lk.le_l _ _);refine bS hx (Q1:=mT ((s.cut (r.2.un x.2)).ev ρ1) id lr lo (fV (λZ'=>aL T r.1 Z' Q1) Q1)) ⟨λη1 η2 ha hq=>kO hr hQ (Nn.join ha lr lo) hq,λcg k' η1 η2 hk ha hq=>?_,λd hq=>hQ.2.2 d hq⟩ (hS.le (Lk.le_r _ _)) h;simp only[mT] at hq ⊢;simp only[bV] at hk;by_cases e:cg=id
  .subst e;simp only[nO,zyv,bx] at hk;subst hk;rw[if_pos rfl] at hq ⊢;exact kO hr hQ (Nn.join ha lr lo) hq
  .rw[if_neg e] at hq ⊢;rw[gS (λh=>e h.symm),zyu] at hk;exact hQ.2.1 cg k' _ _ hk ha hq
 |brk s p k kO=>
  intro c t' L hp Q1 Q2 ρ1 ρ2 hQ hA h;simp only[gr,aJ] at hp;obtain⟨r,hr,hp⟩:=hp;cases hx:pP (c.ov.map (·.1)) p<;>simp only[hx,zyv,zyu,bx,pJ] at hp
  .cases hp
  obtain⟨rfl,rfl⟩:=hp;have hS:=SE.cut_al hA;have jP:Off (p.lk.un (r.2.un c.all)) (s.ev ρ2) ((s.cut (p.lk.un (r.2.un c.all))).ev ρ1) (s.ev ρ2):=⟨hS,λ_ _=>rfl,λ_ _=>rfl⟩
  obtain⟨x,hq,n0,hn⟩:=h;have step:=λn (hle:n0<=n)=>PC.ev_off p (Lk.le_l _ _) jP (hn n hle);obtain⟨x',h1,h2⟩:=step n0 (bL _);refine⟨x',?_,n0,λn hle=>?_⟩
  .cases x with
   |next G=>obtain⟨G',rfl,h3⟩:=h2;exact kO hr hQ (h3.al.le ((Lk.le_l _ _).trans (Lk.le_r _ _))) hq
   |exit i G=>
    obtain⟨G',rfl,h3⟩:=h2;obtain⟨k',bu⟩:=ah8 (arR p hx (hn n0 (bL _)));exact hQ.2.1 i k' _ _ bu (h3.al.le ((LC.all_le bu).trans ((Lk.le_r _ _).trans (Lk.le_r _ _)))) hq
   |ret d=>cases h2;exact hQ.2.2 d hq
  .obtain⟨x2,h3,h4⟩:=step n hle;rw[h3,h2.uniq h4]
def HJ (c:LC)(t:PT):PT:=match gr c t with|some r=>r.1|none=>t
def O5 {T:cS}{c:LC}{t:PT}{Q:Out->Prop}{Z:Env}(hQ:RL c Q Q)(h:aL T (HJ c t) Z Q):aL T t Z Q:=by
 unfold HJ at h;split at h
 .rename_i r hr;exact aAK t hr hQ ⟨λ_ _=>rfl,λ_ _=>rfl⟩ h
 .exact h
def anS (c:PC):PT:=sx c [] .id (λ_ s=>.next s) (λ_ id s=>.exit id s)
def anT {T:cS}{c:PC}{Z:Env}{Q:Out->Prop}(h:aL T (anS c) Z Q):aG T c Z Q:=
 QL (s:=.id) c (cv.ok_nil _) h (λZ' ak s _ _ h=>h) (λZ' ak id s _ _ h=>h) (λ_ _ _ h=>h) (λ_ h=>h)
def tree (c:PC):PT:=HJ ⟨.none,[]⟩ (anS c)
def Rb {T:cS}{c:PC}{Z:Env}{d:D}(h:aL T (tree c) Z λx=>x=.ret d):aG T c Z λx=>x=.ret d:=
 anT (O5 ⟨λ_ _ _ h=>(by cases h),λ_ _ _ _ _ _ h=>(by cases h),λ_ h=>h⟩ h)
def SE.keep (s:SE)(lr lo:List Nat):SE:=⟨lr.map λt=>(t,s.getR t),lo.map λt=>(t,s.getO t)⟩
def SE.keep_r (s:SE)(lr lo:List Nat)(Z:Env):lr.map ((s.keep lr lo).ev Z).r=lr.map (s.ev Z).r:=by
 apply Ba;intro t ht;show((s.keep lr lo).getR t).ev Z=(s.getR t).ev Z;have:=Al (f:=λt=>s.getR t) (l:=[]) (u:=t) lr;rw[tU,if_pos ht] at this;have e:(s.keep lr lo).getR t=s.getR t:=by unfold SE.getR SE.keep;simp only[];rw[this];rfl
 rw[e]
def SE.keep_o (s:SE)(lr lo:List Nat)(Z:Env):lo.map ((s.keep lr lo).ev Z).o=lo.map (s.ev Z).o:=by
 apply Ba;intro t ht;show((s.keep lr lo).getO t).ev Z=(s.getO t).ev Z;have:=Al (f:=λt=>s.getO t) (l:=[]) (u:=t) lo;rw[tU,if_pos ht] at this;have e:(s.keep lr lo).getO t=s.getO t:=by unfold SE.getO SE.keep;simp only[];rw[this];rfl
 rw[e]
def ank (id:Nat)(bN bM lr lo:List Nat)(a:PC):PT:=
 sx a [] .id (λ_ s=>.next (s.keep lr lo)) (λ_ cg s=>bif Nat.beq cg id then .exit id (s.keep bN bM) else .exit cg s)
def fN (Z:Env)(id:Nat)(bN bM lr lo:List Nat)(K:List D->List D->Prop)(Q:Out->Prop):Out->Prop
 |.next Z'=>K (lr.map Z'.r) (lo.map Z'.o)
 |.exit cg Z'=>if cg=id then Q (.next (Z.put bN (bN.map Z'.r) bM (bM.map Z'.o))) else Q (.exit cg Z')
 |.ret d=>Q (.ret d)
def round (id:Nat)(bN bM lr lo:List Nat)(a:PC):PT:=HJ ⟨⟨bits lr,lo⟩,[(id,⟨bits bN,bM⟩)]⟩ (ank id bN bM lr lo a)
def aiu {k:Lk}{lr:List Nat}{ρ1 ρ2:Env}(h:Alike k ρ1 ρ2)(hk:∀t,t∈lr->aW k.r t=true):lr.map ρ2.r=lr.map ρ1.r:=Ba λt ht=>h.r t (hk t ht)
def Oi {k:Lk}{lo:List Nat}{ρ1 ρ2:Env}(h:Alike k ρ1 ρ2)(hk:∀t,t∈lo->t∈k.o):lo.map ρ2.o=lo.map ρ1.o:=Ba λt ht=>h.o t (hk t ht)
def aCf {T:cS}{id:Nat}{bN bM lr lo:List Nat}{a:PC}{Z ρ0:Env}{K:List D->List D->Prop}{Q:Out->Prop}(h:aL T (round id bN bM lr lo a) Z (fN ρ0 id bN bM lr lo K Q)):aL T (ank id bN bM lr lo a) Z (fN ρ0 id bN bM lr lo K Q):=by
 refine O5 ⟨λρ1 ρ2 ha hq=>?_,λcg k ρ1 ρ2 hk ha hq=>?_,λd hq=>hq⟩ h
 .simp only[fN] at hq ⊢;rw[aiu ha λt ht=>Tf ht,Oi ha λt ht=>ht];exact hq
 .simp only[bV] at hk;cases hb:Nat.beq id cg<;>simp only[hb,zyv,zyu] at hk
  .cases hk
  .cases hk;have:=dP hb;subst this;simp only[fN,if_true] at hq ⊢;rw[aiu ha λt ht=>Tf ht,Oi ha λt ht=>ht];exact hq
def aG.forLoop {T:cS}{id:Nat}{bN bM lr lo:List Nat}{a:PC}{Z:Env}{Q:Out->Prop}{α:Type}(inv:α->List D->List D->Prop)(xC:α->Nat)(s0:α)(h0:inv s0 (lr.map Z.r) (lo.map Z.o))
 (step:∀s vr vo,inv s vr vo->aL T (round id bN bM lr lo a) (Z.put lr vr lo vo) (fN Z id bN bM lr lo (λvr vo=>∃s',xC s'<xC s/\inv s' vr vo) Q)):aG T (.block id bN bM (.loop lr lo a)) Z Q:=by
 refine .block (.loop inv xC s0 h0 λs vr vo hi=>?_);have h:=aCf (step s vr vo hi);refine QL (s:=.id) a (cv.ok_nil _) h (λZ' ak s' _ _ h=>?_) (λZ' ak cg s' _ _ h=>?_) (λ_ cg Z' h=>?_) (λd h=>h)
 .simp only[aL,fN] at h;rw[SE.keep_r,SE.keep_o] at h;exact h
 .simp only[fV,mT];by_cases cU:cg=id
  .subst cU;simp only[nO,zyv,aL,fN,if_true] at h;rw[SE.keep_r,SE.keep_o] at h;rw[if_pos rfl];exact h
  .rw[gS cU,zyu] at h;simp only[aL,fN] at h;rw[if_neg cU] at h ⊢;exact h
 .simp only[fV,mT];simp only[fN] at h;split
  .rename_i e;rw[if_pos e] at h;exact h
  .rename_i e;rw[if_neg e] at h;exact h
def anl (lo:List Nat)(a:PC):PT:=sx a [] .id (λ_ s=>.next (s.keep [] lo)) (λ_ id s=>.exit id (s.keep [] lo))
def rL (lo:List Nat)(a:PC):PT:=HJ ⟨⟨0,lo⟩,[(db,⟨0,lo⟩)]⟩ (anl lo a)
def anm {T:cS}{lo:List Nat}{a:PC}{Z:Env}{Q:Out->Prop}(hn:∀ρ1 ρ2,lo.map ρ2.o=lo.map ρ1.o->Q (.next ρ1)->Q (.next ρ2))(hx:∀ρ1 ρ2,lo.map ρ2.o=lo.map ρ1.o->Q (.exit db ρ1)->Q (.exit db ρ2))(h:aL T (rL lo a) Z Q):aL T (anl lo a) Z Q:=by
 refine O5 ⟨λρ1 ρ2 ha hq=>hn ρ1 ρ2 (Oi ha λt ht=>ht) hq,λcg k ρ1 ρ2 hk ha hq=>?_,λd hq=>hq⟩ h;simp only[bV] at hk;cases hb:Nat.beq db cg<;>simp only[hb,zyv,zyu] at hk
 .cases hk
 .cases hk;have:=dP hb;subst this;exact hx ρ1 ρ2 (Oi ha λt ht=>ht) hq
def aG.eachR {T:cS}{e:PE}{ps lo:List Nat}{rt:Option PE}{a:PC}{Z:Env}{Q:Out->Prop}(xs:List D)(he:(e.ev Z).l=xs)(inv:Nat->List D->Prop)(h0:inv 0 (lo.map Z.o))
 (step:∀k x vo,xs[k]?=some x->inv k vo->aL T (rL lo a) (Z.put ps (partsOf ps x) lo vo) (wz Z lo rt (inv (k+1)) Q)) (done:∀vo,inv xs.length vo->Q (.next (Z.put [] [] lo vo))):aG T (.each e ps lo rt a) Z Q:=by
 refine .each xs he inv h0 (λk x vo hx hi=>?_) done;have h:=anm (λρ1 ρ2 e hq=>by simp only[wz] at hq ⊢;rw[e];exact hq) (λρ1 ρ2 e hq=>by simp only[wz,if_true] at hq ⊢;rw[e];exact hq) (step k x vo hx hi);refine QL (s:=.id) a (cv.ok_nil _) h (λZ' ak s' _ _ h=>?_) (λZ' ak cg s' _ _ h=>?_) (λ_ cg Z' h=>h) (λd h=>h)
 .simp only[aL,wz] at h;rw[SE.keep_o] at h;exact h
 .simp only[aL,wz] at h;rw[SE.keep_o] at h;exact h
def aG.meachR {T:cS}{J:Nat}{ps dz lo:List Nat}{a:PC}{Z:Env}{Q:Out->Prop}(es:List (D×D))(he:Z.o J=.tup [.list [],.map es])(inv:List D->List D->Prop)(h0:inv [] (lo.map Z.o))
 (step:∀done x rest vo,(done++x::rest).Perm (iZ (.map es))->inv done vo->aL T (rL lo a) ((Z.put ps (dz.map x.tget) lo vo).setO J (.tup [.list (done++[x]),.map es])) (λy=>∃Z',y=.next Z'/\inv (done++[x]) (lo.map Z'.o)))
 (last:∃vo,(∀done,done.Perm (iZ (.map es))->∀tM,inv done tM->tM=vo)/\Q (.next (Z.put [] [] lo vo))):aG T (.meach J ps dz lo a) Z Q:=by
 refine .meach es he inv h0 (λdone x rest vo hp hi=>?_) last;have h:=anm (λρ1 ρ2 e ⟨Z',e1,hq⟩=>by cases e1;exact⟨_,rfl,by rw[e];exact hq⟩) (λρ1 ρ2 e ⟨Z',e1,hq⟩=>by cases e1) (step done x rest vo hp hi);refine QL (s:=.id) a (cv.ok_nil _) h (λZ' ak s' _ _ h=>?_) (λZ' ak cg s' _ _ h=>?_) (λ_ cg Z' h=>?_) (λd h=>?_)
 .simp only[aL] at h;obtain⟨ρ2,e,h⟩:=h;injection e with e;subst e;rw[SE.keep_o] at h;exact⟨_,rfl,h⟩
 .simp only[aL] at h;obtain⟨ρ2,e,h⟩:=h;cases e
 .obtain⟨ρ2,e,_⟩:=h;cases e
 .obtain⟨ρ2,e,_⟩:=h;cases e
def Bg {T:cS}:∀(t:PT) {Z:Env} {Q Q':Out->Prop},(∀x,Q x->Q' x)->aL T t Z Q->aL T t Z Q':=by
 intro t
 induction t with
 |next s=>intro Z Q Q' h hx;exact h _ hx
 |exit id s=>intro Z Q Q' h hx;exact h _ hx
 |ret e=>intro Z Q Q' h hx;exact h _ hx
 |chk e k ih=>intro Z Q Q' h hx;exact⟨hx.1,ih h hx.2⟩
 |ite c a b bS eW=>
  intro Z Q Q' h hx;simp only[aL] at hx ⊢;split
  .rename_i hc;rw[if_pos hc] at hx;exact bS h hx
  .rename_i hc;rw[if_neg hc] at hx;exact eW h hx
 |call s gs dst f args k ih=>
  intro Z Q Q' h hx;simp only[aL] at hx ⊢;split
  .rename_i hc;rw[if_pos hc] at hx;obtain⟨d,hd,hx⟩:=hx;exact⟨d,hd,ih h hx⟩
  .rename_i hc;rw[if_neg hc] at hx;exact ih h hx
 |callc s gs dst e args k ih=>
  intro Z Q Q' h hx;simp only[aL] at hx ⊢;split
  .rename_i hc;rw[if_pos hc] at hx;obtain⟨f,c,d,he,hd,hx⟩:=hx;exact⟨f,c,d,he,hd,ih h hx⟩
  .rename_i hc;rw[if_neg hc] at hx;exact ih h hx
 |mcall s j f args k ih=>intro Z Q Q' h hx;obtain⟨d,hd,hx⟩:=hx;exact⟨d,hd,ih h hx⟩
 |iteS s c lr lo a b k bS eW kO=>
  intro Z Q Q' h hx
  have hq:∀x,lL (s.ev Z) lr lo (fV (λZ'=>aL T k Z' Q) Q) x->lL (s.ev Z) lr lo (fV (λZ'=>aL T k Z' Q') Q') x:=by
   intro x hx;cases x with
   |next Z'=>exact kO h hx
   |exit id Z'=>exact h _ hx
   |ret d=>exact h _ hx
  simp only[aL] at hx ⊢;split
  .rename_i hc;rw[if_pos hc] at hx;exact bS hq hx
  .rename_i hc;rw[if_neg hc] at hx;exact eW hq hx
 |blockS s id lr lo a k bS kO=>
  intro Z Q Q' h hx;refine bS (λx hx=>?_) hx;cases x with
  |next Z'=>exact kO h hx
  |exit cg Z'=>
   simp only[mT] at hx ⊢;split
   .rename_i e;rw[if_pos e] at hx;exact kO h hx
   .rename_i e;rw[if_neg e] at hx;exact h _ hx
  |ret d=>exact h _ hx
 |brk s c k ih=>
  intro Z Q Q' h hx;refine aG.mono hx λx hx=>?_;cases x with
  |next Z'=>exact ih h hx
  |exit id Z'=>exact h _ hx
  |ret d=>exact h _ hx
def aG.forRounds {T:cS}{id:Nat}{bN bM lr lo:List Nat}{a:PC}{Z:Env}{Q:Out->Prop}(N:Nat)(str fW:Nat->List D)(h0:lr.map Z.r=str 0/\lo.map Z.o=fW 0)
 (step:∀k,k<N->aL T (round id bN bM lr lo a) (Z.put lr (str k) lo (fW k)) (fN Z id bN bM lr lo (λvr vo=>vr=str (k+1)/\vo=fW (k+1)) Q))
 (last:aL T (round id bN bM lr lo a) (Z.put lr (str N) lo (fW N)) (fN Z id bN bM lr lo (λ_ _=>False) Q)):aG T (.block id bN bM (.loop lr lo a)) Z Q:=by
 refine .forLoop (α:=Nat) (λk vr vo=>k<=N/\vr=str k/\vo=fW k) (λk=>N-k) 0 ⟨vU _,h0.1,h0.2⟩ ?_;rintro k vr vo ⟨hk,rfl,rfl⟩;have mono:∀{K K':List D->List D->Prop},(∀a b,K a b->K' a b)->∀x,fN Z id bN bM lr lo K Q x->fN Z id bN bM lr lo K' Q x:=by
  intro K K' h x hx;cases x with
  |next Z'=>exact h _ _ hx
  |exit cg Z'=>exact hx
  |ret d=>exact hx
 by_cases aq:k<N
 .exact Bg _ (mono λa b ⟨h1,h2⟩=>⟨k+1,by omega,by omega,h1,h2⟩) (step k aq)
 .obtain rfl:k=N:=by omega
  exact Bg _ (mono λa b h=>h.elim) last
def ZO {Z:Env}{id:Nat}{bN bM lr lo:List Nat}{K K':List D->List D->Prop}{Q:Out->Prop}(h:∀a b,K a b->K' a b):∀x,fN Z id bN bM lr lo K Q x->fN Z id bN bM lr lo K' Q x:=by
 intro x hx;cases x with
 |next Z'=>exact h _ _ hx
 |exit cg Z'=>exact hx
 |ret d=>exact hx
def aG.scan {T:cS}{id:Nat}{bN bM lr lo:List Nat}{a:PC}{Z:Env}{Q:Out->Prop}(N:Nat)(ok:Nat->Prop)(str fW:Nat->List D)(h0:lr.map Z.r=str 0/\lo.map Z.o=fW 0)
 (step:∀k,k<N->(∀j,j<k->ok j)->ok k->aL T (round id bN bM lr lo a) (Z.put lr (str k) lo (fW k)) (fN Z id bN bM lr lo (λvr vo=>vr=str (k+1)/\vo=fW (k+1)) Q))
 (bad:∀k,k<N->(∀j,j<k->ok j)->¬ok k->aL T (round id bN bM lr lo a) (Z.put lr (str k) lo (fW k)) (fN Z id bN bM lr lo (λ_ _=>False) Q))
 (last:(∀j,j<N->ok j)->aL T (round id bN bM lr lo a) (Z.put lr (str N) lo (fW N)) (fN Z id bN bM lr lo (λ_ _=>False) Q)):aG T (.block id bN bM (.loop lr lo a)) Z Q:=by
 refine .forLoop (α:=Nat) (λk vr vo=>k<=N/\(∀j,j<k->ok j)/\vr=str k/\vo=fW k) (λk=>N-k) 0 ⟨vU _,λj hj=>by omega,h0.1,h0.2⟩ ?_;rintro k vr vo ⟨hk,hj,rfl,rfl⟩;by_cases aq:k<N
 .by_cases aE:ok k
  .refine Bg _ (ZO λa b ⟨h1,h2⟩=>⟨k+1,by omega,by omega,λj zH=>?_,h1,h2⟩) (step k aq hj aE);by_cases e:j=k
   .subst e;exact aE
   .exact hj j (by omega)
  .exact Bg _ (ZO λa b h=>h.elim) (bad k aq hj aE)
 .obtain rfl:k=N:=by omega
  exact Bg _ (ZO λa b h=>h.elim) (last hj)
def ar (n:Nat)(e:PE):PE:=.mk ((List.range n).map λi=>.cell e i)
def jl (n:Nat)(d:D):D:=.agg ((List.range n).flatMap λi=>(d.c i).cells)
def arP (Z:Env)(n:Nat)(e:PE):(ar n e).ev Z=jl n (e.ev Z):=by
 have key:∀l:List Nat,PE.evc Z (l.map λi=>.cell e i)=l.flatMap λi=>((e.ev Z).c i).cells:=by
  intro l
  induction l with
  |nil=>rfl
  |cons i l ih=>simp only[j6,PE.evc,PE.ev,EG,ih]
 show D.agg _=_;rw[key];rfl
end Cx
