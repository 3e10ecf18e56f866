/-
  Shared texts of this claim.
-/
import Derived.Test.YtopjnikcppafdaaGreatDoorKAG
import Derived.Below
import Derived.ChangeSame
import Derived.WalkKit
import Derived.ProofKit
import Derived.OpenShut
import Derived.Carry
import Derived.JoinedCond
set_option linter.unusedSimpArgs false
set_option linter.unusedVariables false
noncomputable section
namespace Cx
open Go Go.RowKit Go.ChangeShapes Go.WideShapes
def ls (w:World):Im:=
 ⟨fun k o=>bif Nat.ble k 2|| !w.frozen? ⟨k,o,none⟩ then w.cell? ⟨k,o,none⟩ else none,fun k=>match w.heap[k]? with|some (.cells _ _ _)=>some mc|_=>none⟩
theorem atq (w:World):(ls w).ok w:=by
 refine⟨fun k o v h=>?_,fun k es h=>?_,fun k o v h=>?_⟩
 case refine_2=>
  change (match w.heap[k]? with|some (.cells _ _ _)=>some mc|_=>none)=_ at h;split at h
  ·rename_i cs T fz e;cases h;exact .inr (.inr ⟨rfl,cs,T,fz,e⟩)
  ·cases h
 all_goals change (bif Nat.ble k 2|| !w.frozen? ⟨k,o,none⟩ then w.cell? ⟨k,o,none⟩ else none)=_ at h
 all_goals cases hb:(Nat.ble k 2|| !w.frozen? ⟨k,o,none⟩)<;>rw[hb] at h
 ·cases h
 ·exact h
 ·cases h
 ·rw[lN] at hb;exact hb.imp lQ (by simp)
theorem aeT {w:World}{k o:Nat}{v:Value}(h:w.cell? ⟨k,o,none⟩=some v):(ls w).m k=some mc:=by
 change (match w.heap[k]? with|some (.cells _ _ _)=>some mc|_=>none)=_;unfold World.cell? at h;cases hk:w.heap[k]? with
 |none=>simp[hk] at h
 |some ob=>cases ob<;>simp_all
theorem aeS {w:World}{k o:Nat}{v:Value}(h:w.cell? ⟨k,o,none⟩=some v)(hz:k≤2∨w.frozen? ⟨k,o,none⟩=false):(ls w).c k o=some v:=by
 change (bif Nat.ble k 2|| !w.frozen? ⟨k,o,none⟩ then w.cell? ⟨k,o,none⟩ else none)=_;rcases hz with hz|hz
 ·have e:Nat.ble k 2=true:=Nat.ble_eq_true_of_le hz;rw[e];exact h
 ·rw[hz];simpa using h
def Dm (P:Program)(r:TypeId→Option Ty):List Field→Nat→Option (List Ty)
 |[],_=>some []
 |f::fs,off=>(r f.type).bind fun ft=>
  bif Nat.beq f.offset off&&Nat.beq (P.cellsOf f.type) ft.flat.length then(Dm P r fs (off+ft.flat.length)).map (ft.flat++·) else none
def gz (P:Program):Nat→TypeId→Option Ty
 |0,_=>none
 |n+1,t=>
  match P.underlying t with
  |some .bool=>some .bool
  |some (.int k)=>some (.int k)
  |some .string=>some .str
  |some (.slice e)=>bif uK P e then some (.slice .trm) else(gz P n e).bind fun te=>bif Nat.beq (P.cellsOf e) te.flat.length&&Nat.ble 1 te.flat.length then some (.slice te) else none
  |some (.struct fs)=>(Dm P (gz P n) fs.toList 0).bind fun ts=>bif Nat.beq (P.cellsOf t) ts.length then some (.agg ts) else none
  |_=>none
theorem atz {P:Program}{e:TypeId}(h:uK P e=true)(n:Nat):gz P (n+2) e=some .trmA∧P.cellsOf e=3:=by
 unfold uK at h;split at h
 case h_2=>cases h
 rename_i fs hu;split at h
 case h_2=>cases h
 rename_i f0 f1 f2 uz;simp only[aw] at h;obtain⟨⟨⟨⟨⟨⟨⟨⟨⟨h0,h1⟩,h2⟩,o0⟩,o1⟩,o2⟩,c0⟩,c1⟩,c2⟩,c3⟩:=h;split at h0
 case h_2=>cases h0
 rename_i u0;split at h1
 case h_2=>cases h1
 rename_i u1;split at h2
 case h_2=>cases h2
 rename_i e' u2;obtain rfl:=aD h2;have r0:gz P (n+1) f0.type=some (.int .i64):=by simp[gz,u0]
 have r1:gz P (n+1) f1.type=some (.int .i64):=by simp[gz,u1]
 have ht:uK P e'=true:=by
  unfold uK;rw[hu];simp only[uz];simp[u0,u1,u2,aD o0,aD o1,aD o2,aD c0,aD c1,aD c2,aD c3]
 have r2:gz P (n+1) f2.type=some (.slice .trm):=by simp[gz,u2,ht]
 refine⟨?_,aD c3⟩;show gz P (n+1+1) e'=_;rw[gz,hu];simp only[uz,Dm,r0,r1,r2,tN,Ty.flat,oL,Ap,o0,c0,Bool.and_self,cond_true];simp[aD o1,aD o2,aD c1,aD c2,aD c3,Ty.trmA]
theorem WX {P:Program}{n:Nat}{t:TypeId}{ty:Ty}(h:gz P n t=some ty):ty.rowT=true∨ty.one=true:=by
 cases n with
 |zero=>simp[gz] at h
 |succ n=>
  simp only[gz] at h;split at h
  ·cases h;exact .inr rfl
  ·cases h;exact .inr rfl
  ·cases h;exact .inr rfl
  ·rename_i e _;cases ht:uK P e<;>simp only[ht,cond_true,cond_false] at h
   ·simp only[aA] at h;obtain⟨te,_,h⟩:=h;cases hb:(Nat.beq (P.cellsOf e) te.flat.length&&Nat.ble 1 te.flat.length)<;>simp only[hb,cond_true,cond_false] at h
    ·cases h
    ·cases h;exact .inr rfl
   ·cases h;exact .inr rfl
  ·rename_i fs _;simp only[aA] at h;obtain⟨ts,_,h⟩:=h;cases hb:Nat.beq (P.cellsOf t) ts.length<;>simp only[hb,cond_true,cond_false] at h
   ·cases h
   ·cases h;exact .inl rfl
  ·cases h
def ns (cap:Nat→Option CSig)(σ:Im)(ts:List Ty)(cs:List Value)(ds:List D):Prop:=
 cs.length=ts.length∧ds.length=ts.length∧∀(i:Nat) (u:Ty),ts[i]?=some u→Rep cap σ u (cs.getD i undef) (ds.getD i .none)∧u.one=true
theorem ns.one {cap:Nat→Option CSig}{σ:Im}{t:Ty}{v:Value}{d:D}(h:Rep cap σ t v d)(ht:t.one=true):ns cap σ [t] [v] [d]:=
 ⟨rfl,rfl,fun i u hu=>by
   cases i with
   |zero=>simp at hu;subst hu;exact⟨h,ht⟩
   |succ i=>simp at hu⟩
theorem ns.append {cap:Nat→Option CSig}{σ:Im}{ts us:List Ty}{cs vs:List Value}{ds es:List D}(h:ns cap σ ts cs ds)(k:ns cap σ us vs es):ns cap σ (ts++us) (cs++vs) (ds++es):=by
 obtain⟨h1,h2,h3⟩:=h;obtain⟨k1,k2,k3⟩:=k;refine⟨by simp[h1,k1],by simp[h2,k2],fun i u hu=>?_⟩;by_cases hi:i<ts.length
 ·rw[oJ hi] at hu;have:=h3 i u hu;rw[aI,aI,oJ (by omega),oJ (by omega)];rw[aI,aI] at this;exact this
 ·rw[oK (by omega)] at hu;have:=k3 _ u hu;rw[aI,aI,oK (by omega),oK (by omega),h1,h2];rw[aI,aI] at this;exact this
def ab6 (ag:Bool)(ds:List D):D:=if ag then .agg ds else ds.getD 0 .none
theorem aoN (t:Ty):t.flat.length=t.size:=by cases t<;>rfl
theorem Rep.ofRow {cap:Nat→Option CSig}{σ:Im}{t:Ty}{cs:List Value}{ds:List D}(iT:t.rowT=true∨t.one=true)(h:ns cap σ t.flat cs ds):Rep cap σ t (Cx.rowOf t.rowT cs) (ab6 t.rowT ds):=by
 obtain⟨h1,h2,h3⟩:=h;cases t with
 |agg ts=>exact .agg ts cs ds h1 h2 (fun i u hu=>(h3 i u hu).1) (fun i u hu=>(h3 i u hu).2)
 |trm=>simp[Ty.rowT,Ty.one] at iT
 |_=>exact(h3 0 _ rfl).1
theorem ax1 {cap:Nat→Option CSig}{σ:Im}{t:Ty}{cs:List Value}{ds:List D}(iT:t.rowT=true∨t.one=true)(h:ns cap σ t.flat cs ds){j:Nat}{u:Value}(hj:(rowOf t.rowT cs).cells[j]?=some u):cs[j]?=some u:=by
 obtain⟨h1,h2,h3⟩:=h;cases t with
 |agg ts=>simpa [rowOf,Ty.rowT,Value.cells] using hj
 |trm=>simp[Ty.rowT,Ty.one] at iT
 |_=>
  have h4:=h3 0 _ rfl;have h5:=(h4.1.oneCell h4.2).1;simp only[rowOf,Ty.rowT,Ae,if_false] at hj;rw[h5] at hj;cases j with
  |zero=>
   simp only[xy,PD,bj] at hj
   match cs,h1 with
   |[c],_=>simpa using hj
  |succ j=>simp at hj
section
variable {H:Type} {enc:TypeId×Value→H} {P:Program} {w:World} {base:Nat} {held:Bool} {cap:Nat→Option CSig}
theorem akr {k:IntKind}{n:Int}(h:(Lit.int k n).wf=true):k.min≤n∧n≤k.max:=by
 simpa [Lit.wf] using h
theorem ajv {n m:Nat}(ih:∀(t:TypeId) (cs:List Value) (x:DataW H×List MemPlace) (ty:Ty),DataW.trod enc P w base (fun _=>true) held n t cs=some x→w.noneFrozen x.2→gz P m t=some ty→∃ds,ns cap (ls w) ty.flat cs ds):
 ∀(fs:List Field) (off:Nat) (cs:List Value) (ts:List Ty),Dm P (gz P m) fs off=some ts→cs.length=off+ts.length→
  (∀f,f∈fs→∃x,DataW.trod enc P w base (fun _=>true) held n f.type ((cs.drop f.offset).take (P.cellsOf f.type))=some x∧w.noneFrozen x.2)→∃ds,ns cap (ls w) ts (cs.drop off) ds
 |[],off,cs,ts,h,hl,_=>by
  simp only[Dm,bj] at h;subst h;have:cs.drop off=[]:=by simp at hl ⊢;omega
  rw[this];exact⟨[],rfl,rfl,fun i u hu=>by simp at hu⟩
 |f::fs,off,cs,ts,h,hl,hx=>by
  simp only[Dm,aA] at h;obtain⟨ft,hft,h⟩:=h;cases hb:(Nat.beq f.offset off&&Nat.beq (P.cellsOf f.type) ft.flat.length)<;>simp only[hb,cond_true,cond_false] at h
  ·cases h
  simp only[aC] at h;obtain⟨us,hus,rfl⟩:=h;simp only[aw] at hb;have e1:=dA hb.1;have e2:=dA hb.2;obtain⟨x,kF,pw⟩:=hx f (fK ..);rw[e1,e2] at kF;obtain⟨Ro,lV⟩:=ih _ _ _ _ kF pw hft;simp only[mm] at hl;obtain⟨ds2,pq⟩:=ajv ih fs (off+ft.flat.length) cs us hus (by omega) fun g hg=>hx g (fy _ hg);refine⟨Ro++ds2,?_⟩;have:=lV.append pq;rw[←List.drop_drop,I1] at this;exact this
theorem aBF:∀(n m:Nat) (t:TypeId) (cs:List Value) (x:DataW H×List MemPlace) (ty:Ty),DataW.trod enc P w base (fun _=>true) held n t cs=some x→w.noneFrozen x.2→gz P m t=some ty→∃ds,ns cap (ls w) ty.flat cs ds:=by
 intro n
 induction n with
 |zero=>intro m t cs x ty h;simp[DataW.trod] at h
 |succ n ih=>
  intro m t cs x ty h hz br;cases m with
  |zero=>simp[gz] at br
  |succ m=>
   simp only[gz] at br;split at br
   ·rename_i hu;cases br;obtain⟨b,rfl,_⟩:=DataW.trod_bool hu h;exact⟨_,.one (.bool b) rfl⟩
   ·rename_i k hu;cases br;obtain⟨z,rfl,_,hw⟩:=DataW.trod_int hu h;exact⟨_,.one (.int k z (akr hw).1 (akr hw).2) rfl⟩
   ·rename_i hu;cases br;obtain⟨s,rfl,_,hs⟩:=DataW.trod_string hu h;exact⟨_,.one (.str s hs) rfl⟩
   ·rename_i e hu;have yT:∃(m':Nat) (te zU:Ty),gz P m' e=some te∧P.cellsOf e=te.flat.length∧1≤te.flat.length∧ty=.slice zU∧zU.unf=te:=by
     cases ht:uK P e<;>simp only[ht,cond_true,cond_false] at br
     ·simp only[aA] at br;obtain⟨te,yT,br⟩:=br;cases hb:(Nat.beq (P.cellsOf e) te.flat.length&&Nat.ble 1 te.flat.length)<;>simp only[hb,cond_true,cond_false] at br
      ·cases br
      cases br;simp only[aw] at hb;exact⟨m,te,te,yT,dA hb.1,lQ hb.2,rfl,Ty.unf_ro (WX yT)⟩
     ·cases br;obtain⟨k1,k2⟩:=atz ht 0;exact⟨2,.trmA,.trm,k1,k2,by decide,rfl,rfl⟩
    obtain⟨m',te,zU,yT,e1,e2,rfl,lW⟩:=yT;have iT:=WX yT;rcases DataW.trod_slice hu h with⟨rfl,_⟩|⟨a,len,cp,elems,rest,n',ll,rfl,Mf,hba,hl,hm,hlen,du,vO,_⟩
    ·exact⟨_,.one (.nil zU) rfl⟩
    ·cases ll;obtain⟨hrl,sM⟩:=vO rfl
     have mC:∀i,i<cp→∃ci y,w.cells? base (a.add (i*P.cellsOf e)) (P.cellsOf e)=some ci∧DataW.trod enc P w base (fun _=>true) held n e ci=some y∧y∈elems++rest:=by
      intro i hi
      have eB:∃y,(w.cells? base (a.add (i*P.cellsOf e)) (P.cellsOf e)).bind (DataW.trod enc P w base (fun _=>true) held n e)=some y∧y∈elems++rest:=by
           by_cases LP:i<len
           ·rw[du i LP];exact⟨_,aX (by omega),jd _ (bW _)⟩
           ·have:=sM (i-len) (by omega);rw[show len+(i-len)=i by omega] at this;rw[this];exact⟨_,aX (by omega),jA _ (bW _)⟩
      obtain⟨y,hy,TJ⟩:=eB;rw[aA] at hy;obtain⟨ci,h1,h2⟩:=hy;exact⟨ci,y,h1,h2,TJ⟩
     by_cases Fs:cp=0
     ·subst Fs;have:len=0:=by omega
      subst this;exact⟨_,.one (.emp zU a) rfl⟩
     ·have aex:a.spot=none:=by
           obtain⟨ci,y,h1,_⟩:=mC 0 (by omega);obtain⟨_,_,h3⟩:=World.cells?_some h1;have:=h3 0 (by omega);simp only[xL,Addr.add,if_true] at this;unfold World.cell? at this;cases hs:a.spot with
           |none=>rfl
           |some s=>
            exfalso;have hl:ci.length=P.cellsOf e:=(World.cells?_some h1).2.1;split at this
            ·rw[hs] at this;simp at this;subst this;simp at hl;omega
            ·rw[eq_comm,List.getElem?_eq_none_iff] at this;omega
      obtain⟨k,o,s⟩:=a;simp only at aex;subst aex;have aO:∀i,∃p:List Value×List D,i<len→w.cells? base ((⟨k,o,none⟩:Addr).add (i*P.cellsOf e)) (P.cellsOf e)=some p.1∧ns cap (ls w) te.flat p.1 p.2:=by
           intro i;by_cases hi:i<len
           ·obtain⟨ci,y,h1,h2,TJ⟩:=mC i (by omega);obtain⟨ds,hr⟩:=ih m' _ _ _ _ h2 (fun b off hp=>hz b off (by rw[Mf];exact jA _ (xA.2 ⟨y,TJ,hp⟩))) yT;exact⟨(ci,ds),fun _=>⟨h1,hr⟩⟩
           ·exact⟨([],[]),fun h=>absurd h hi⟩
      obtain⟨f,hf⟩:=Classical.axiomOfChoice aO;have vI:(ls w).m k=some mc:=by
           obtain⟨ci,y,h1,_⟩:=mC 0 (by omega);obtain⟨_,h4,h5⟩:=World.cells?_some h1;have h6:=h5 0 (by omega);rw[aX (by omega)] at h6;simp only[xL,Addr.add,if_true] at h6;exact aeT h6
      refine⟨_,.one (.slice zU k o len cp ((List.range len).map fun i=>ab6 te.rowT (f i).2) (fun i=>rowOf te.rowT (f i).1) (by simp) hl hm (fun i x hx=>?_) (fun i j u hi hj=>?_) (fun _=>vI)) rfl⟩
      ·rw[ct,aC] at hx;obtain⟨i',db,rfl⟩:=hx;have af:i<len:=by have:=(fe.1 db).1;simpa using this
       rw[rU af] at db;cases db;rw[lW];exact Rep.ofRow iT (hf i af).2
      ·obtain⟨h1,h2⟩:=hf i hi;have cK:=ax1 iT h2 hj;obtain⟨_,h4,h5⟩:=World.cells?_some h1;have gS:j<P.cellsOf e:=by rw[←h4];exact(fe.1 cK).1
       have:=h5 j gS;rw[cK] at this;have cf:i*P.cellsOf e+j<(elems.length+rest.length)*P.cellsOf e:=by
           have h6:(i+1)*P.cellsOf e≤(elems.length+rest.length)*P.cellsOf e:=ff _ (by omega);rw[Nat.succ_mul] at h6;omega
       have Cy:=hz k (o+(i*P.cellsOf e+j)) (by rw[Mf];exact jd _ (MemPlace.mem_row.2 ⟨_,cf,rfl⟩));rw[←zU.unf_size,lW,←aoN,←e1,xF];refine aeS ?_ (.inr Cy);rw[←this]
       congr 1
       simp only[Addr.add];split<;>split<;>simp_all<;>omega
   ·rename_i fs hu;simp only[aA] at br;obtain⟨ts,Cq,br⟩:=br;cases hb:Nat.beq (P.cellsOf t) ts.length<;>simp only[hb,cond_true,cond_false] at br
    ·cases br
    cases br;obtain⟨xs,n',ll,Mf,hl,y0,hf⟩:=DataW.trod_struct hu h;cases ll
    have:=ajv (ih m) fs.toList 0 cs ts Cq (by rw[hl,dA hb];omega) (fun f hm=>by
     obtain⟨i,hi⟩:=Ao hm;have db:fs[i]?=some f:=by simpa using hi
     have h1:=hf i f db;have af:i<fs.size:=(ei.1 db).1;exact⟨_,h1.trans (aX (by omega)),fun b off hp=>hz b off (by rw[Mf];exact xA.2 ⟨_,bW (by omega),hp⟩)⟩)
    show ∃ds,ns cap (ls w) ts cs ds;simpa using this
   ·cases br
theorem Ev {base:Nat}{t:TypeId}{v:Value}(h:Cell.okWide P w .any base t v):v.cells=#[v]:=by
 cases v<;>first|rfl|(exfalso;simp only[Cell.okWide,Cell.ok] at h;revert h;cases P.underlying t with|none=>simp|some T=>cases T<;>simp)
theorem alG {base base':Nat}{m:Nat}{t:TypeId}{v:Value}{d:DataW H}{ps:List MemPlace}{ty:Ty}(ax:Value.okWide P w .any base' t v)(h:DataW.Trod enc P w base (fun _=>true) held t v d ps)(hz:w.noneFrozen ps)(br:gz P m t=some ty):∃d,Rep cap (ls w) ty v d:=by
 obtain⟨fuel,h⟩:=h;obtain⟨ds,hr⟩:=aBF (cap:=cap) fuel m t _ _ _ h hz br;have bO:=Rep.ofRow (WX br) hr;cases m with
 |zero=>simp[gz] at br
 |succ m=>
  suffices hs:rowOf ty.rowT v.cells.toList=v by rw[hs] at bO;exact⟨_,bO⟩
  simp only[gz] at br;unfold Value.okWide at ax;split at br
  ·rename_i hu;cases br;rw[hu] at ax;simp only at ax;rw[Ev ax];rfl
  ·rename_i hu;cases br;rw[hu] at ax;simp only at ax;rw[Ev ax];rfl
  ·rename_i hu;cases br;rw[hu] at ax;simp only at ax;rw[Ev ax];rfl
  ·rename_i e hu;cases ht:uK P e<;>simp only[ht,cond_true,cond_false] at br
   ·simp only[aA] at br;obtain⟨te,_,br⟩:=br;cases hb:(Nat.beq (P.cellsOf e) te.flat.length&&Nat.ble 1 te.flat.length)<;>simp only[hb,cond_true,cond_false] at br
    ·cases br
    cases br;rw[hu] at ax;simp only at ax;rw[Ev ax];rfl
   ·cases br;rw[hu] at ax;simp only at ax;rw[Ev ax];rfl
  ·rename_i fs hu;simp only[aA] at br;obtain⟨ts,_,br⟩:=br;cases hb:Nat.beq (P.cellsOf t) ts.length<;>simp only[hb,cond_true,cond_false] at br
   ·cases br
   cases br;rw[hu] at ax;obtain⟨cs,rfl,_⟩:=ax;simp[rowOf,Ty.rowT,Value.cells]
  ·cases br
def Ia (P:Program)(m:Nat):List TypeId→Option (List Ty)
 |[]=>some []
 |t::ts=>(gz P m t).bind fun x=>(Ia P m ts).map (x::·)
theorem abr {base base' m:Nat}:∀(ts:List TypeId) (vs:List Value) (ds:List (DataW H)) (ps:List MemPlace) (oF:List Ty),DataW.TrodAll enc P w base (fun _=>true) held ts vs ds ps→w.noneFrozen ps→Ia P m ts=some oF→
 (∀(j:Nat) t v,ts[j]?=some t→vs[j]?=some v→Value.okWide P w .any base' t v)→
 ∃es:List D,vs.length=oF.length∧es.length=oF.length∧∀(i:Nat) (t:Ty),oF[i]?=some t→Rep cap (ls w) t (vs.getD i undef) (es.getD i .none)
 |[],vs,ds,ps,oF,h,hz,br,_=>by
  simp only[Ia,bj] at br;subst br;cases vs with
  |nil=>exact⟨[],rfl,rfl,fun i t h=>by simp at h⟩
  |cons=>cases ds<;>exact h.elim
 |t::ts,vs,ds,ps,oF,h,hz,br,ax=>by
  simp only[Ia,aA,aC] at br;obtain⟨ty,as5,aBJ,as6,rfl⟩:=br;cases vs with
  |nil=>cases ds<;>exact h.elim
  |cons v vs=>
   cases ds with
   |nil=>exact h.elim
   |cons d ds=>
    obtain⟨p,q,h1,h2,hpq⟩:=h;obtain⟨e,he⟩:=alG (cap:=cap) (ax 0 t v rfl rfl) h1 (fun b off hp=>hz b off (by rw[hpq];exact jd _ hp)) as5;obtain⟨es,k1,k2,k3⟩:=abr ts vs ds q aBJ h2 (fun b off hp=>hz b off (by rw[hpq];exact jA _ hp)) as6 (fun j t' v' hj hv=>ax (j+1) t' v' hj hv);refine⟨e::es,by simp[k1],by simp[k2],fun i u hu=>?_⟩;cases i with
    |zero=>simp at hu;subst hu;exact he
    |succ i=>simpa using k3 i u (by simpa using hu)
end
mutual
inductive DTy:Ty→D→Prop where
 |int (k:IntKind) (n:Int) (h1:k.min≤n) (h2:n≤k.max):DTy (.int k) (.v (.int k n))
 |bool (b:Bool):DTy .bool (.v (.bool b))
 |str (s:ByteArray) (h:s.size≤maxLen):DTy .str (.v (.string s))
 |slice (e:Ty) (xs:List D) (hm:xs.length≤maxLen) (h:∀x,x∈xs→DTy e.unf x):DTy (.slice e) (.list xs)
 |agg (ts:List Ty) (ds:List D) (h:DTys ts ds):DTy (.agg ts) (.agg ds)
 |other (t:Ty) (d:D) (h:match t with|.int _|.bool|.str|.slice _|.agg _=>False|_=>True):DTy t d
inductive DTys:List Ty→List D→Prop where
 |nil:DTys [] []
 |cons {t:Ty} {d:D} {ts:List Ty} {ds:List D} (h:DTy t d) (hs:DTys ts ds):DTys (t::ts) (d::ds)
end
theorem DTys.of_get:∀{ts:List Ty} {ds:List D},ds.length=ts.length→(∀(i:Nat) (t:Ty),ts[i]?=some t→DTy t (ds.getD i .none))→DTys ts ds
 |[],[],_,_=>.nil
 |t::ts,d::ds,hl,h=>.cons (h 0 t rfl) (DTys.of_get (by simpa using hl) fun i u hu=>by simpa using h (i+1) u (by simpa using hu))
 |[],_::_,hl,_=>by simp at hl
 |_::_,[],hl,_=>by simp at hl
theorem Rep.dty {cap:Nat→Option CSig}{σ:Im}{t:Ty}{v:Value}{d:D}(h:Rep cap σ t v d):DTy t d:=by
 induction h with
 |int k n h1 h2=>exact .int k n h1 h2
 |bool b=>exact .bool b
 |str s h=>exact .str s h
 |agg ts vs ds h1 h2 _ ho ih=>exact .agg ts ds (.of_get h2 ih)
 |nil e=>exact .slice e [] (by decide) (fun x hx=>by cases hx)
 |emp e a=>exact .slice e [] (by decide) (fun x hx=>by cases hx)
 |slice e k o n c xs vs hn hc hm _ hv _ ih=>
  refine .slice e xs (by omega) fun x hx=>?_;obtain⟨i,hi⟩:=Ao hx;exact ih i x hi
 |_=>exact .other _ _ trivial
theorem atO {H:Type}{enc:TypeId×Value→H}{C:Ctx}{f:Nat}{fn:Func}{sg:Sig}{spec:ChangeSpec}{tb:TypeId}{apart fresh handsOn again:Bool}(hl:laidOutB C.P=true)
 (sO:Ia C.P 12 fn.params.toList=some sg.args) (asw:fn.params.toList.all (fun t=>C.P.readableRec t&&decide (t<C.P.types.size))=true) (Tz:spec.vars=[])
 (asP:∀ds:List (DataW H),ds.length=fn.params.size→(spec.fn H ds).results=[.lit (.bool true)]∧(spec.fn H ds).args=ds∧(spec.fn H ds).vars=[])
 (j9:fn.resultTypes=#[tb]) (Md:C.P.underlying tb=some .bool) (nX:sg.mode=.dat) (vM:sg.res=.bool)
 (SG:∀ds,DTys sg.args ds→ij C f sg ds (.v (.bool true)))
 (W:World) (sA:CtxOK C (ls W)) (base:Nat) (args:Array Value) (ds gs:List (DataW H)) (before:List MemPlace)
 (cT:∀(j:Nat) t v,fn.params[j]?=some t→args[j]?=some v→Value.okWide C.P W .any base t v)
 (hW:DataW.Whole enc C.P fn.params.toList spec.vars apart W args.toList ds gs before):
 Calls C.P f args W fun e W'=>∃v,e=.returned v∧spec.post enc C.P fn apart fresh handsOn again W args v W':=by
 have Lx:=hW;have af:∀p∈before,p.block<W.heap.size:=fun p hp=>Lx.lt p hp;obtain⟨p,q,hA,hV,rfl,Ca,bx⟩:=hW;rw[Tz] at hV;obtain⟨rfl,rfl⟩:=trodVars_none hV;obtain⟨es,k1,k2,k3⟩:=abr (cap:=C.cap) (base':=base) fn.params.toList args.toList ds p sg.args hA (fun b off hp=>Ca b off (by simpa using hp)) sO (fun j t v hj hv=>cT j t v (by simpa using hj) (by simpa using hv));have br:DTys sg.args es:=.of_get k2 fun i t ht=>(k3 i t ht).dty
 have hlen:∀(ts:List TypeId) (vs:List Value) (ds:List (DataW H)) (ps:List MemPlace),DataW.TrodAll enc C.P W 0 (fun _=>true) true ts vs ds ps→ds.length=ts.length:=by
  intro ts
  induction ts with
  |nil=>intro vs ds ps h;cases vs<;>cases ds<;>first|rfl|exact h.elim
  |cons t ts ih=>
   intro vs ds ps h;cases vs with
   |nil=>cases ds<;>exact h.elim
   |cons v vs=>cases ds with
    |nil=>exact h.elim
    |cons d ds=>obtain⟨p,q,_,h2,_⟩:=h;simp[ih vs ds q h2]
 have Fv:ds.length=fn.params.size:=by simpa using hlen _ _ _ _ hA
 obtain⟨s1,s2,s3⟩:=asP (ds++[]) (by simpa using Fv);refine(SG es br (ls W) W args (atq W) sA ⟨k1,k2,k3⟩).mono fun e W' hh=>?_;obtain⟨v,σ',rfl,_,_,hb,_,_,hr⟩:=hh;refine⟨v,rfl,?_⟩;simp only[nu,nX,vM] at hr;obtain⟨b,rfl,yu⟩:=hr.bool_inv;cases yu
 have stays:∀(sp:Nat→Bool) (ts:List TypeId) (vs:List Value) (ds:List (DataW H)) (ps:List MemPlace),ts.all (fun t=>C.P.readableRec t&&decide (t<C.P.types.size))=true→(∀x∈ps,x.block<W.heap.size)→(∀x∈ps,sp x.block=true)→
  DataW.TrodAll enc C.P W 0 (fun _=>true) true ts vs ds ps→DataW.TrodAll enc C.P W' 0 sp true ts vs ds ps:=by
  intro sp ts
  induction ts with
  |nil=>intro vs ds ps _ _ _ h;cases vs<;>cases ds<;>first|exact h|exact h.elim
  |cons t ts ih=>
   intro vs ds ps ha vK vO h;cases vs with
   |nil=>cases ds<;>exact h.elim
   |cons v vs=>cases ds with
    |nil=>exact h.elim
    |cons d ds=>
     obtain⟨p,q,h1,h2,rfl⟩:=h;simp only[tJ,aw,decide_eq_true_eq] at ha
     exact⟨p,q,WideElems.Trod_stays hl ha.1.1 ha.1.2 h1 (fun x hx=>hb.same (vK x (jd _ hx))) (fun x hx=>vO x (jd _ hx)),
      ih vs ds q (by simpa using ha.2) (fun x hx=>vK x (jA _ hx)) (fun x hx=>vO x (jA _ hx)) h2,rfl⟩
 have ad5:∀x∈p,x.block<W.heap.size:=fun x hx=>af x (jd _ hx);have jm:=fun sp (h:∀x∈p,sp x.block=true)=>stays sp _ _ _ _ asw ad5 h hA;have sM:∀(b:Nat) (sp:Nat→Bool) (hd:Bool),DataW.TrodAll enc C.P W' b sp hd fn.resultTypes.toList ((Value.bool true).resultList fn.resultTypes.size) [.lit (.bool true)] []:=by
  intro b sp hd;rw[j9];exact trodAll_mk1 (shut_bool Md true)
 refine⟨ds,[],p++[],[],p,[],Lx,?_,?_,?_,World.keptBut_mono (fun x hx=>⟨hx,?_⟩) (hb.frame (·∈p++[])),fun _=>?_⟩
 ·rw[s1];exact sM _ _ _
 ·rw[s2];simpa using jm _ (fun x hx=>by simpa using ad5 x hx)
 ·rw[s3,Tz];rfl
 ·simpa using hx
 ·refine⟨ok_one j9 rfl (okWide_bool_mk Md true),_,[],([]++p)++[],⟨[]++p,[],trodAll_append (jm _ (fun _ _=>rfl)) (sM _ _ _),by rw[Tz];exact rfl,rfl,?_,?_⟩,?_⟩
  ·intro b off hp;have cf:MemPlace.cell b off∈p++[]:=by simpa using hp
   rw[hb.frozen (af _ cf)];exact Ca b off cf
  ·intro ha;simpa using bx ha
  ·intro x hx _;simpa using hx
end Cx
namespace Cx
open Go Go.RowKit
abbrev cG:=Nat→aW
def aj (T:cG)(f:Nat)(ds:List D)(d:D):Prop:=∃n0,∀n,n0≤n→T n f ds=some d
def Ah (T:cG)(l:List PI)(ρ:Env)(Q:Env→Prop):Prop:=∃ρ',Q ρ'∧∃n0,∀n,n0≤n→PI.runs (T n) l ρ=some ρ'
def aK (T:cG)(c:PC)(ρ:Env)(Q:Out→Prop):Prop:=∃x,Q x∧∃n0,∀n,n0≤n→c.ev (T n) n ρ=some x
theorem aK.mono {T:cG}{c:PC}{ρ:Env}{Q Q':Out→Prop}(h:aK T c ρ Q)(hq:∀x,Q x→Q' x):aK T c ρ Q':=by
 obtain⟨x,hx,n0,hn⟩:=h;exact⟨x,hq x hx,n0,hn⟩
theorem Ah.nil {T:cG}{ρ:Env}{Q:Env→Prop}(h:Q ρ):Ah T [] ρ Q:=⟨ρ,h,0,fun _ _=>rfl⟩
theorem Ah.cons {T:cG}{p:PI}{l:List PI}{ρ ρ1:Env}{Q:Env→Prop}{n0:Nat}(h:∀n,n0≤n→p.run (T n) ρ=some ρ1)(k:Ah T l ρ1 Q):Ah T (p::l) ρ Q:=by
 obtain⟨ρ',hQ,n1,h1⟩:=k;exact⟨ρ',hQ,max n0 n1,fun n hn=>by simp[PI.runs,h n (by omega),h1 n (by omega)]⟩
def iy (T:cG):List PI→Env→(Env→Prop)→Prop
 |[],ρ,Q=>Q ρ
 |.setR t e::l,ρ,Q=>iy T l (ρ.setR t (e.ev ρ)) Q
 |.setO t e::l,ρ,Q=>iy T l (ρ.setO t (e.ev ρ)) Q
 |.chk e::l,ρ,Q=>(e.ev ρ).b=true∧iy T l ρ Q
 |.call gs dst f args::l,ρ,Q=>if holds gs ρ=true then ∃d,aj T f (PE.evs ρ args) d∧iy T l (ρ.setR dst d) Q else iy T l ρ Q
 |.callc gs dst e args::l,ρ,Q=>if holds gs ρ=true then ∃f caps d,e.ev ρ=.clo f caps∧aj T f (PE.evs ρ args++caps) d∧iy T l (ρ.setR dst d) Q else iy T l ρ Q
 |.mcall j f args::l,ρ,Q=>∃d,aj T f (PE.evs ρ args) d∧iy T l (ρ.setO j d) Q
theorem u7 {T:cG}:∀{l:List PI} {ρ:Env} {Q:Env→Prop},iy T l ρ Q→Ah T l ρ Q
 |[],ρ,Q,h=>.nil h
 |.setR t e::l,ρ,Q,h=>.cons (n0:=0) (fun _ _=>rfl) (u7 h)
 |.setO t e::l,ρ,Q,h=>.cons (n0:=0) (fun _ _=>rfl) (u7 h)
 |.chk e::l,ρ,Q,h=>.cons (n0:=0) (fun n _=>by simp[PI.run,h.1]) (u7 h.2)
 |.call gs dst f args::l,ρ,Q,h=>by
  unfold iy at h;split at h
  ·rename_i hg;obtain⟨d,⟨n0,hn⟩,h⟩:=h;exact .cons (n0:=n0) (fun n hle=>by simp[PI.run,hg,hn n hle]) (u7 h)
  ·rename_i hg;exact .cons (n0:=0) (fun n hle=>by simp[PI.run,hg]) (u7 h)
 |.callc gs dst e args::l,ρ,Q,h=>by
  unfold iy at h;split at h
  ·rename_i hg;obtain⟨f,caps,d,he,⟨n0,hn⟩,h⟩:=h;exact .cons (n0:=n0) (fun n hle=>by simp[PI.run,hg,he,hn n hle]) (u7 h)
  ·rename_i hg;exact .cons (n0:=0) (fun n hle=>by simp[PI.run,hg]) (u7 h)
 |.mcall j f args::l,ρ,Q,h=>by
  obtain⟨d,⟨n0,hn⟩,h⟩:=h;exact .cons (n0:=n0) (fun n hle=>by simp[PI.run,hn n hle]) (u7 h)
def lx (ρ:Env)(lr lo:List Nat)(Q:Out→Prop):Out→Prop
 |.next ρ'=>Q (.next (ρ.join lr lo ρ'))
 |x=>Q x
def mw (ρ:Env)(id:Nat)(lr lo:List Nat)(Q:Out→Prop):Out→Prop
 |.next ρ'=>Q (.next (ρ.join lr lo ρ'))
 |.exit bS ρ'=>if bS=id then Q (.next (ρ.join lr lo ρ')) else Q (.exit bS ρ')
 |.ret d=>Q (.ret d)
def gC (K:Env→Prop)(Q:Out→Prop):Out→Prop
 |.next ρ'=>K ρ'
 |.exit id ρ'=>Q (.exit id ρ')
 |.ret d=>Q (.ret d)
theorem aK.is {T:cG}{l:List PI}{ρ:Env}{Q:Out→Prop}(h:iy T l ρ fun ρ'=>Q (.next ρ')):aK T (.is l) ρ Q:=by
 obtain⟨ρ',hQ,n0,hn⟩:=u7 h;exact⟨.next ρ',hQ,n0,fun n hle=>by simp[PC.ev,hn n hle]⟩
theorem aK.skip {T:cG}{ρ:Env}{Q:Out→Prop}(h:Q (.next ρ)):aK T .skip ρ Q:=⟨_,h,0,fun _ _=>rfl⟩
theorem aK.exit {T:cG}{ρ:Env}{id:Nat}{Q:Out→Prop}(h:Q (.exit id ρ)):aK T (.exit id) ρ Q:=⟨_,h,0,fun _ _=>rfl⟩
theorem aK.ret {T:cG}{ρ:Env}{e:PE}{Q:Out→Prop}(h:Q (.ret (e.ev ρ))):aK T (.ret e) ρ Q:=⟨_,h,0,fun _ _=>rfl⟩
theorem aK.seq {T:cG}{a b:PC}{ρ:Env}{Q:Out→Prop}(h:aK T a ρ (gC (fun ρ'=>aK T b ρ' Q) Q)):aK T (.seq a b) ρ Q:=by
 obtain⟨x,hx,n0,hn⟩:=h;cases x with
 |next ρ'=>
  obtain⟨y,hy,n1,h1⟩:=hx;exact⟨y,hy,max n0 n1,fun n hle=>by simp[PC.ev,hn n (by omega),h1 n (by omega)]⟩
 |exit id ρ'=>exact⟨_,hx,n0,fun n hle=>by simp[PC.ev,hn n hle]⟩
 |ret d=>exact⟨_,hx,n0,fun n hle=>by simp[PC.ev,hn n hle]⟩
theorem aK.ite {T:cG}{c:PE}{lr lo:List Nat}{a b:PC}{ρ:Env}{Q:Out→Prop}(h:if(c.ev ρ).b=true then aK T a ρ (lx ρ lr lo Q) else aK T b ρ (lx ρ lr lo Q)):aK T (.ite c lr lo a b) ρ Q:=by
 split at h
 all_goals
  rename_i hc;obtain⟨x,hx,n0,hn⟩:=h;cases x with
  |next ρ'=>exact⟨_,hx,n0,fun n hle=>by simp[PC.ev,hc,hn n hle]⟩
  |exit id ρ'=>exact⟨_,hx,n0,fun n hle=>by simp[PC.ev,hc,hn n hle]⟩
  |ret d=>exact⟨_,hx,n0,fun n hle=>by simp[PC.ev,hc,hn n hle]⟩
theorem aK.block {T:cG}{id:Nat}{lr lo:List Nat}{a:PC}{ρ:Env}{Q:Out→Prop}(h:aK T a ρ (mw ρ id lr lo Q)):aK T (.block id lr lo a) ρ Q:=by
 obtain⟨x,hx,n0,hn⟩:=h;cases x with
 |next ρ'=>exact⟨_,hx,n0,fun n hle=>by simp[PC.ev,hn n hle]⟩
 |exit bS ρ'=>
  simp only[mw] at hx;split at hx
  ·rename_i e;subst e;exact⟨_,hx,n0,fun n hle=>by simp[PC.ev,hn n hle]⟩
  ·rename_i e;exact⟨_,hx,n0,fun n hle=>by simp[PC.ev,hn n hle,ga e]⟩
 |ret d=>exact⟨_,hx,n0,fun n hle=>by simp[PC.ev,hn n hle]⟩
theorem aK.loop {T:cG}{lr lo:List Nat}{a:PC}{ρ:Env}{Q:Out→Prop}{α:Type}(inv:α→List D→List D→Prop)(wy:α→Nat)(s0:α)(h0:inv s0 (lr.map ρ.r) (lo.map ρ.o))
 (step:∀s vr vo,inv s vr vo→aK T a (ρ.put lr vr lo vo) (gC (fun ρ'=>∃s',wy s'<wy s∧inv s' (lr.map ρ'.r) (lo.map ρ'.o)) Q)):aK T (.loop lr lo a) ρ Q:=by
 have key:∀(m:Nat) (s:α) (vr vo:List D),wy s≤m→inv s vr vo→∃x,Q x∧∃n0,∀n k,n0≤n→n0≤k→iX (a.ev (T n) n) ρ lr lo k vr vo=some x:=by
  intro m
  induction m with
  |zero=>
   intro s vr vo hm hi;obtain⟨x,hx,n0,hn⟩:=step s vr vo hi;cases x with
   |next ρ'=>obtain⟨s',af,_⟩:=hx;omega
   |exit id ρ'=>
    refine⟨_,hx,n0+1,fun n k hle hk=>?_⟩;obtain⟨k',rfl⟩:∃k',k=k'+1:=⟨k-1,by omega⟩
    simp[iX,hn n (by omega)]
   |ret d=>
    refine⟨_,hx,n0+1,fun n k hle hk=>?_⟩;obtain⟨k',rfl⟩:∃k',k=k'+1:=⟨k-1,by omega⟩
    simp[iX,hn n (by omega)]
  |succ m ih=>
   intro s vr vo hm hi;obtain⟨x,hx,n0,hn⟩:=step s vr vo hi;cases x with
   |next ρ'=>
    obtain⟨s',af,db⟩:=hx;obtain⟨y,hy,n1,h1⟩:=ih s' _ _ (by omega) db;refine⟨y,hy,max n0 n1+1,fun n k hle hk=>?_⟩;obtain⟨k',rfl⟩:∃k',k=k'+1:=⟨k-1,by omega⟩
    simp[iX,hn n (by omega),h1 n k' (by omega) (by omega)]
   |exit id ρ'=>
    refine⟨_,hx,n0+1,fun n k hle hk=>?_⟩;obtain⟨k',rfl⟩:∃k',k=k'+1:=⟨k-1,by omega⟩
    simp[iX,hn n (by omega)]
   |ret d=>
    refine⟨_,hx,n0+1,fun n k hle hk=>?_⟩;obtain⟨k',rfl⟩:∃k',k=k'+1:=⟨k-1,by omega⟩
    simp[iX,hn n (by omega)]
 obtain⟨x,hx,n0,hn⟩:=key (wy s0) s0 _ _ (bn _) h0;exact⟨x,hx,n0,fun n hle=>by simp only[PC.ev];exact hn n n hle hle⟩
def vt (ρ:Env)(lo:List Nat)(rt:Option PE)(K:List D→Prop)(Q:Out→Prop):Out→Prop
 |.next ρ'=>K (lo.map ρ'.o)
 |.exit id ρ'=>if id=cR then ∃e,rt=some e∧Q (.ret (e.ev (ρ.put [] [] lo (lo.map ρ'.o)))) else Q (.exit id (ρ.put [] [] lo (lo.map ρ'.o)))
 |.ret _=>False
theorem aK.each {T:cG}{e:PE}{ps lo:List Nat}{rt:Option PE}{a:PC}{ρ:Env}{Q:Out→Prop}(xs:List D)(he:(e.ev ρ).l=xs)(inv:Nat→List D→Prop)(h0:inv 0 (lo.map ρ.o))
 (step:∀k x vo,xs[k]?=some x→inv k vo→aK T a (ρ.put ps (partsOf ps x) lo vo) (vt ρ lo rt (inv (k+1)) Q)) (done:∀vo,inv xs.length vo→Q (.next (ρ.put [] [] lo vo))):aK T (.each e ps lo rt a) ρ Q:=by
 have key:∀(r k:Nat) (vo:List D),k+r=xs.length→inv k vo→∃x,Q x∧∃n0,∀n,n0≤n→jh (a.ev (T n) n) ρ ps lo rt (xs.drop k) vo=some x:=by
  intro r
  induction r with
  |zero=>
   intro k vo hk hi;have:xs.drop k=[]:=by rw[aaU];omega
   obtain rfl:k=xs.length:=by omega
   exact⟨_,done vo hi,0,fun n _=>by rw[this];rfl⟩
  |succ r ih=>
   intro k vo hk hi;have af:k<xs.length:=by omega
   rw[ak5 af];obtain⟨y,hy,n0,hn⟩:=step k xs[k] vo (aX af) hi;cases y with
   |next ρ'=>
    obtain⟨z,hz,n1,h1⟩:=ih (k+1) _ (by omega) hy;exact⟨z,hz,max n0 n1,fun n hle=>by simp only[jh,hn n (by omega)];exact h1 n (by omega)⟩
   |exit id ρ'=>
    simp only[vt] at hy;split at hy
    ·rename_i cL;obtain⟨e,h1,h2⟩:=hy;exact⟨_,h2,n0,fun n hle=>by subst cL;simp[jh,hn n hle,h1]⟩
    ·rename_i cL;exact⟨_,hy,n0,fun n hle=>by simp[jh,hn n hle,ga cL]⟩
   |ret d=>exact hy.elim
 obtain⟨x,hx,n0,hn⟩:=key xs.length 0 _ (by omega) h0;exact⟨x,hx,n0,fun n hle=>by simp only[PC.ev,he];exact hn n hle⟩
theorem aie {α:Type}:∀(l:List α),∃L:List (List α),∀ys,ys∈L↔ys.Perm l
 |[]=>⟨[[]],fun ys=>by simp⟩
 |x::l=>by
  obtain⟨L,hL⟩:=aie l;refine⟨L.flatMap fun ys=>(List.range (ys.length+1)).map fun i=>ys.take i++x::ys.drop i,fun zs=>?_⟩;simp only[xA,cu,fY];constructor
  ·rintro⟨ys,hy,i,_,rfl⟩;have h1:=(hL ys).1 hy;refine(List.perm_middle).trans (.cons x ?_);rw[I1];exact h1
  ·intro h;have hx:x∈zs:=h.symm.subset (fK ..);obtain⟨s,t,rfl⟩:=List.append_of_mem hx;refine⟨s++t,(hL _).2 ?_,s.length,by simp;omega,by simp⟩;exact(List.perm_cons x).1 ((List.perm_middle).symm.trans h)
theorem aK.meach {T:cG}{J:Nat}{ps dj lo:List Nat}{a:PC}{ρ:Env}{Q:Out→Prop}(es:List (D×D))(he:ρ.o J=.tup [.list [],.map es])(inv:List D→List D→Prop)(h0:inv [] (lo.map ρ.o))
 (step:∀done x rest vo,(done++x::rest).Perm (iY (.map es))→inv done vo→aK T a ((ρ.put ps (dj.map x.tget) lo vo).setO J (.tup [.list (done++[x]),.map es])) (fun y=>∃ρ',y=.next ρ'∧inv (done++[x]) (lo.map ρ'.o)))
 (last:∃vo,(∀done,done.Perm (iY (.map es))→∀tB,inv done tB→tB=vo)∧Q (.next (ρ.put [] [] lo vo))):aK T (.meach J ps dj lo a) ρ Q:=by
 obtain⟨vo,hl,hQ⟩:=last;have key:∀(xs done:List D) (vs:List D),(done++xs).Perm (iY (.map es))→inv done vs→∃n0,∀n,n0≤n→pJ (a.ev (T n) n) ρ J (.map es) ps dj lo xs done vs=some vo:=by
  intro xs
  induction xs with
  |nil=>intro done vs hp hi;exact⟨0,fun n _=>by rw[hl done (by simpa using hp) vs hi];rfl⟩
  |cons x xs ih=>
   intro done vs hp hi;obtain⟨y,⟨ρ',rfl,db⟩,n0,hn⟩:=step done x xs vs hp hi;obtain⟨n1,h1⟩:=ih (done++[x]) _ (by simpa using hp) db;exact⟨max n0 n1,fun n hle=>by simp only[pJ,hn n (by omega)];exact h1 n (by omega)⟩
 have j4:∀(L:List (List D)),(∀ys,ys∈L→ys.Perm (iY (.map es)))→∃n0,∀n,n0≤n→∀ys,ys∈L→pJ (a.ev (T n) n) ρ J (.map es) ps dj lo ys [] (lo.map ρ.o)=some vo:=by
  intro L
  induction L with
  |nil=>intro _;exact⟨0,fun n _ ys hy=>by cases hy⟩
  |cons y L ih=>
   intro hL;obtain⟨n0,fi⟩:=ih fun ys hy=>hL ys (fy _ hy);obtain⟨n1,h1⟩:=key y [] _ (by simpa using hL y (fK ..)) h0;refine⟨max n0 n1,fun n hle ys hy=>?_⟩;rcases cC.1 hy with e|hy
   ·subst e;exact h1 n (by omega)
   ·exact fi n (by omega) ys hy
 obtain⟨L,hL⟩:=aie (iY (.map es));obtain⟨n0,hn⟩:=j4 L fun ys hy=>(hL ys).1 hy;refine⟨_,hQ,n0,fun n hle=>?_⟩;simp only[PC.ev,CU];refine⟨vo,⟨by rw[he];rfl,fun ys hy=>?_⟩,rfl⟩;rw[he] at hy ⊢;exact hn n hle ys ((hL ys).2 hy)
theorem bounded {Q:Nat→Nat→Prop}:∀(L:Nat),(∀m,m≤L→∃n0,∀n,n0≤n→Q m n)→∃n0,∀n,n0≤n→∀m,m≤L→Q m n
 |0,h=>by
  obtain⟨n0,hn⟩:=h 0 (bn _)
  exact⟨n0,fun n hle m hm=>by obtain rfl:m=0:=by omega
                              exact hn n hle⟩
 |L+1,h=>by
  obtain⟨n0,hn⟩:=bounded L fun m hm=>h m (by omega);obtain⟨n1,h1⟩:=h (L+1) (bn _);refine⟨max n0 n1,fun n hle m hm=>?_⟩;by_cases e:m=L+1
  ·subst e;exact h1 n (by omega)
  ·exact hn n (by omega) m (by omega)
theorem aj.of_pc {tab:Nat→Option PC}{ext:Nat→Option (aW→List D→Option D)}{f:Nat}{pc:PC}{ds:List D}{d:D}(hx:ext f=none)(ht:tab f=some pc)(h:aK (eL tab ext) pc (oV ds) (fun x=>x=.ret d)):aj (eL tab ext) f ds d:=by
 obtain⟨x,rfl,n0,hn⟩:=h;refine⟨n0+1,fun n hle=>?_⟩;obtain⟨k,rfl⟩:∃k,n=k+1:=⟨n-1,by omega⟩
 simp[eL,hx,ht,hn k (by omega)]
theorem aj.of_ext {tab:Nat→Option PC}{ext:Nat→Option (aW→List D→Option D)}{f:Nat}{g:aW→List D→Option D}{ds:List D}{d:D}(hx:ext f=some g)(h:∃n0,∀n,n0≤n→g (eL tab ext n) ds=some d):aj (eL tab ext) f ds d:=by
 obtain⟨n0,hn⟩:=h;refine⟨n0+1,fun n hle=>?_⟩;obtain⟨k,rfl⟩:∃k,n=k+1:=⟨n-1,by omega⟩
 simp[eL,hx,hn k (by omega)]
def IJ (T:cG)(xs:List D)(m:Nat):cG:=fun n=>yldΦ (T n) xs m
theorem aj.yld {T:cG}{xs:List D}{m f:Nat}{ds:List D}{d:D}(h:aj T f ds d)(hf:f≠nl):aj (IJ T xs m) f ds d:=by
 obtain⟨n0,hn⟩:=h;exact⟨n0,fun n hle=>by simp[IJ,yldΦ,hf,hn n hle]⟩
theorem aj.answer {T:cG}{xs l:List D}{m i:Nat}(hl:l=xs.take (i+1))(hi:i<xs.length)(hm:i≤m):aj (IJ T xs m) nl [.list l] (.v (.bool (decide (i<m)))):=by
 subst hl;refine⟨0,fun n _=>?_⟩;have h1:(xs.take (i+1)).length=i+1:=by rw[ej];omega
 simp only[IJ,yldΦ,if_true,h1];rw[if_pos ⟨by omega,by omega,trivial⟩];rfl
theorem aj.of_it {tab:Nat→Option PC}{ext:Nat→Option (aW→List D→Option D)}{f:Nat}{pc:PC}{J k:Nat}{spec:List D→List D}{ds:List D}(hx:ext f=some (Gl pc J k spec))(hk:∀x,x∈spec ds→∃ds',x=.tup ds'∧ds'.length=k)
 (h:∀m,m≤(spec ds).length→aK (IJ (eL tab ext) (spec ds) m) pc (BL J ds) (fun x=>x=.ret (.list ((spec ds).take (m+1))))):aj (eL tab ext) f ds (.list (spec ds)):=by
 refine aj.of_ext hx ?_
 obtain⟨n0,hn⟩:=bounded (Q:=fun m n=>pc.ev (yldΦ (eL tab ext n) (spec ds) m) n (BL J ds)=some (.ret (.list ((spec ds).take (m+1))))) (spec ds).length (fun m hm=>by
  obtain⟨x,rfl,n0,hn⟩:=h m hm;exact⟨n0,hn⟩)
 refine⟨n0,fun n hle=>?_⟩;unfold Gl;rw[if_pos];exact⟨fun m hm=>⟨n,hn n hle m hm⟩,hk⟩
theorem aj.det {T:cG}{f:Nat}{ds:List D}{d d':D}(h:aj T f ds d)(k:aj T f ds d'):d=d':=by
 obtain⟨n0,hn⟩:=h;obtain⟨n1,h1⟩:=k;have:=(hn (max n0 n1) (by omega)).symm.trans (h1 (max n0 n1) (by omega));exact tO this
theorem aj.fnOK {C:Ctx}{tab:Nat→Option PC}{ext:Nat→Option (aW→List D→Option D)}(h:TabOK C tab ext){f:Nat}{s:Sig}{ds:List D}{d:D}(hs:C.sig f=some s)(hr:aj (eL tab ext) f ds d)(hm:v7 s.mode=false:=by rfl):ij C f s ds d:=by
 obtain⟨n0,hn⟩:=hr;exact((abh h n0).1 f ds d (hn n0 (bn _)) s hs).1 hm
def Le (Φ Ψ:aW):Prop:=∀f ds d,Φ f ds=some d→Ψ f ds=some d
theorem Env.setR_r (ρ:Env)(t u:Nat)(d:D):(ρ.setR t d).r u=if u=t then d else ρ.r u:=by simp only[Env.setR,fJ]
theorem Env.setO_o (ρ:Env)(t u:Nat)(d:D):(ρ.setO t d).o u=if u=t then d else ρ.o u:=by simp only[Env.setO,fJ]
theorem Env.join_r (ρ ρ':Env)(lr lo:List Nat)(u:Nat):(ρ.join lr lo ρ').r u=if u∈lr then ρ'.r u else ρ.r u:=by simp only[Env.join,Env.put,uS]
theorem Env.join_o (ρ ρ':Env)(lr lo:List Nat)(u:Nat):(ρ.join lr lo ρ').o u=if u∈lo then ρ'.o u else ρ.o u:=by simp only[Env.join,Env.put,uS]
theorem Nk (f:Nat→D)(i:Nat)(is:List Nat)(x:D)(xs:List D)(u:Nat):putL f (i::is) (x::xs) u=if u=i then x else putL f is xs u:=by simp only[putL,fJ]
theorem Nl (f:Nat→D)(xs:List D)(u:Nat):putL f [] xs u=f u:=by cases xs<;>rfl
theorem asf (g:Nat×Bool)(gs:List (Nat×Bool))(ρ:Env):holds (g::gs) ρ=((ρ.r g.1).b==g.2&&holds gs ρ):=rfl
theorem D.tget_tup (x:List D)(i:Nat):(D.tup x).tget i=x.getD i .none:=rfl
theorem D.c_agg (x:List D)(i:Nat):(D.agg x).c i=x.getD i .none:=rfl
end Cx
namespace Cx
open Go Go.RowKit
structure SE where
 r:List (Nat×PE)
 o:List (Nat×PE)
def SE.getR (s:SE)(t:Nat):PE:=match bL s.r t with|some e=>e|none=>.r t
def SE.getO (s:SE)(t:Nat):PE:=match bL s.o t with|some e=>e|none=>.o t
def SE.setR (s:SE)(t:Nat)(e:PE):SE:=⟨(t,e)::s.r,s.o⟩
def SE.setO (s:SE)(t:Nat)(e:PE):SE:=⟨s.r,(t,e)::s.o⟩
def SE.id:SE:=⟨[],[]⟩
def SE.ev (s:SE)(ρ:Env):Env:=⟨fun t=>(s.getR t).ev ρ,fun t=>(s.getO t).ev ρ⟩
def SE.join (s:SE)(lr lo:List Nat)(s':SE):SE:=⟨lr.map (fun t=>(t,s'.getR t))++s.r,lo.map (fun t=>(t,s'.getO t))++s.o⟩
theorem SE.setR_ev (s:SE)(t:Nat)(e:PE)(ρ:Env):(s.setR t e).ev ρ=(s.ev ρ).setR t (e.ev ρ):=by
 have h:(fun u=>((s.setR t e).getR u).ev ρ)=cd (fun u=>(s.getR u).ev ρ) t (e.ev ρ):=by
  funext u;simp only[SE.getR,SE.setR,bL,fJ];by_cases h:t=u
  ·subst h;simp
  ·have h':¬u=t:=fun e=>h e.symm;simp[ga h,h']
 simp only[SE.ev,Env.setR];rw[h];rfl
theorem SE.setO_ev (s:SE)(t:Nat)(e:PE)(ρ:Env):(s.setO t e).ev ρ=(s.ev ρ).setO t (e.ev ρ):=by
 have h:(fun u=>((s.setO t e).getO u).ev ρ)=cd (fun u=>(s.getO u).ev ρ) t (e.ev ρ):=by
  funext u;simp only[SE.getO,SE.setO,bL,fJ];by_cases h:t=u
  ·subst h;simp
  ·have h':¬u=t:=fun e=>h e.symm;simp[ga h,h']
 simp only[SE.ev,Env.setO];rw[h];rfl
theorem zb {f:Nat→PE}{l:List (Nat×PE)}{u:Nat}:∀(lr:List Nat),bL (lr.map (fun t=>(t,f t))++l) u=if u∈lr then some (f u) else bL l u
 |[]=>by simp
 |t::lr=>by
  simp only[jc,IW,bL,zb lr,cC];by_cases h:t=u
  ·subst h;simp
  ·have h':¬u=t:=fun e=>h e.symm;simp[ga h,h']
theorem SE.join_ev (s s':SE)(lr lo:List Nat)(ρ:Env):(s.join lr lo s').ev ρ=(s.ev ρ).join lr lo (s'.ev ρ):=by
 have h1:∀u,((s.join lr lo s').getR u).ev ρ=((s.ev ρ).join lr lo (s'.ev ρ)).r u:=by
  intro u;rw[Env.join_r];have e:bL (s.join lr lo s').r u=if u∈lr then some (s'.getR u) else bL s.r u:=zb lr;unfold SE.getR;rw[e];by_cases h:u∈lr
  ·simp only[h,if_true];rfl
  ·simp only[h,if_false];rfl
 have h2:∀u,((s.join lr lo s').getO u).ev ρ=((s.ev ρ).join lr lo (s'.ev ρ)).o u:=by
  intro u;rw[Env.join_o];have e:bL (s.join lr lo s').o u=if u∈lo then some (s'.getO u) else bL s.o u:=zb lo;unfold SE.getO;rw[e];by_cases h:u∈lo
  ·simp only[h,if_true];rfl
  ·simp only[h,if_false];rfl
 have e1:(fun u=>((s.join lr lo s').getR u).ev ρ)=((s.ev ρ).join lr lo (s'.ev ρ)).r:=funext h1;have e2:(fun u=>((s.join lr lo s').getO u).ev ρ)=((s.ev ρ).join lr lo (s'.ev ρ)).o:=funext h2;show Env.mk _ _=_;rw[e1,e2]
abbrev bV:=List (PE×Bool)
def bV.ok (ae:bV)(ρ:Env):Prop:=∀x,x∈ae→(x.1.ev ρ).b=x.2
def Jg (e:PE):bV→Option Bool
 |[]=>none
 |x::l=>bif PE.beq x.1 e then some x.2 else Jg e l
theorem abw {e:PE}{ρ:Env}{b:Bool}:∀{ae:bV},ae.ok ρ→Jg e ae=some b→(e.ev ρ).b=b
 |[],_,h=>by cases h
 |x::l,ax,h=>by
  simp only[Jg] at h;cases hb:PE.beq x.1 e<;>simp only[hb,cond_true,cond_false] at h
  ·exact abw (fun y hy=>ax y (fy _ hy)) h
  ·cases h;rw[←PE.beq_eq _ _ hb];exact ax x (fK ..)
def w7 (ae:bV):PE→Option Bool
 |.con (.v (.bool b))=>some b
 |.nt x=>(w7 ae x).map (!·)
 |e=>Jg e ae
theorem zV {ae:bV}{ρ:Env}(h:ae.ok ρ):∀{e:PE} {b:Bool},w7 ae e=some b→(e.ev ρ).b=b
 |.con (.v (.bool b)),b',he=>by simp only[w7,bj] at he;subst he;rfl
 |.nt x,b',he=>by
  simp only[w7,aC] at he;obtain⟨c,hc,rfl⟩:=he;simp only[PE.ev,D.b_bool,zV h hc]
 |e,b',he=>by
  unfold w7 at he;split at he
  ·cases he;rfl
  ·rename_i x;simp only[aC] at he;obtain⟨c,hc,rfl⟩:=he;simp only[PE.ev,D.b_bool,zV h hc]
  ·exact abw h he
def uP (ae:bV)(c a b:PE):PE:=match w7 ae c with|some true=>a|some false=>b|none=>.pick c a b
theorem Vq {ae:bV}{ρ:Env}(h:ae.ok ρ)(c a b:PE):(uP ae c a b).ev ρ=(PE.pick c a b).ev ρ:=by
 unfold uP;split
 ·rename_i ht;simp[PE.ev,zV h ht]
 ·rename_i ht;simp[PE.ev,zV h ht]
 ·rfl
def Rm:PE→PE
 |.ref x=>x
 |x=>.deref x
theorem anq (x:PE)(ρ:Env):(Rm x).ev ρ=(PE.deref x).ev ρ:=by unfold Rm;split<;>rfl
def Xr:PE→Nat→PE
 |.tup es,i=>es.getD i (.con .none)
 |x,i=>.tget x i
theorem ayY (x:PE)(i:Nat)(ρ:Env):(Xr x i).ev ρ=(PE.tget x i).ev ρ:=by
 unfold Xr;split
 ·rename_i es;simp only[PE.ev,D.tget_tup,PE.evs_eq,aI,ct];cases es[i]?<;>rfl
 ·rfl
def GD:PE→Bool
 |.ai ..|.ci ..|.cb ..|.cs ..|.sadd ..|.nt _|.conv ..|.llen _|.bytes _|.slen _|.mlen _|.idx ..|.sidx ..|.sok ..|.slok ..|.lst _|.app ..|.setn ..|.rep ..|.slc ..|.ref _|.has ..|.put ..|.an ..|.imp ..|.tup _|.clo ..=>true
 |.con (.v _)|.con (.list _)|.con (.map _)=>true
 |_=>false
theorem avS {e:PE}(h:GD e=true)(ρ:Env):(e.ev ρ).cells=[e.ev ρ]:=by
 unfold GD at h;split at h<;>first|rfl|cases h
def Q3:PE→Nat→PE
 |.mk es,i=>bif es.all GD then es.getD i (.con .none) else .cell (.mk es) i
 |x,i=>.cell x i
theorem acC {ρ:Env}:∀{es:List PE},es.all GD=true→PE.evc ρ es=PE.evs ρ es
 |[],_=>rfl
 |e::es,h=>by
  simp only[tJ,aw] at h;simp only[PE.evc,PE.evs,avS h.1,acC h.2];rfl
theorem amp (x:PE)(i:Nat)(ρ:Env):(Q3 x i).ev ρ=(PE.cell x i).ev ρ:=by
 unfold Q3;split
 ·rename_i es;cases hc:es.all GD
  ·rfl
  ·simp only[cond_true,PE.ev,acC hc,D.c_agg,PE.evs_eq,aI,ct];cases es[i]?<;>rfl
 ·rfl
def Fg (s:SE):List (Nat×Bool)→PE
 |[]=>.con (.v (.bool true))
 |g::gs=>.an (bif g.2 then s.getR g.1 else .nt (s.getR g.1)) (Fg s gs)
theorem ac0 (s:SE)(ρ:Env):∀gs,((Fg s gs).ev ρ).b=holds gs (s.ev ρ)
 |[]=>rfl
 |g::gs=>by
  have ih:=ac0 s ρ gs;rw[asf,←ih];have e:((s.ev ρ).r g.1)=(s.getR g.1).ev ρ:=rfl;rw[e];cases hg:g.2
  ·simp only[Fg,hg,cond_false,PE.ev,D.b_bool];cases((s.getR g.1).ev ρ).b<;>rfl
  ·simp only[Fg,hg,cond_true,PE.ev,D.b_bool];cases((s.getR g.1).ev ρ).b<;>rfl
mutual
def PE.sub' (ae:bV)(s:SE):PE→PE
 |.r t=>s.getR t
 |.o j=>s.getO j
 |.con d=>.con d
 |.cell e i=>Q3 (PE.sub' ae s e) i
 |.sub e a b=>.sub (PE.sub' ae s e) a b
 |.setc e q x=>.setc (PE.sub' ae s e) q (PE.sub' ae s x)
 |.mk es=>.mk (PE.subs' ae s es)
 |.ai op k x y=>.ai op k (PE.sub' ae s x) (PE.sub' ae s y)
 |.ci op x y=>.ci op (PE.sub' ae s x) (PE.sub' ae s y)
 |.cb op x y=>.cb op (PE.sub' ae s x) (PE.sub' ae s y)
 |.cs op x y=>.cs op (PE.sub' ae s x) (PE.sub' ae s y)
 |.sadd x y=>.sadd (PE.sub' ae s x) (PE.sub' ae s y)
 |.nt x=>.nt (PE.sub' ae s x)
 |.conv k x=>.conv k (PE.sub' ae s x)
 |.pick c a b=>uP ae (PE.sub' ae s c) (PE.sub' ae s a) (PE.sub' ae s b)
 |.llen x=>.llen (PE.sub' ae s x)
 |.bytes x=>.bytes (PE.sub' ae s x)
 |.slen x=>.slen (PE.sub' ae s x)
 |.mlen x=>.mlen (PE.sub' ae s x)
 |.nth x y=>.nth (PE.sub' ae s x) (PE.sub' ae s y)
 |.idx x y=>.idx (PE.sub' ae s x) (PE.sub' ae s y)
 |.sidx x y=>.sidx (PE.sub' ae s x) (PE.sub' ae s y)
 |.sok x y=>.sok (PE.sub' ae s x) (PE.sub' ae s y)
 |.setn x y n z=>.setn (PE.sub' ae s x) (PE.sub' ae s y) n (PE.sub' ae s z)
 |.app x y=>.app (PE.sub' ae s x) (PE.sub' ae s y)
 |.lst es=>.lst (PE.subs' ae s es)
 |.rep x y=>.rep (PE.sub' ae s x) (PE.sub' ae s y)
 |.slc x y z=>.slc (PE.sub' ae s x) (PE.sub' ae s y) (PE.sub' ae s z)
 |.slok x y z=>.slok (PE.sub' ae s x) (PE.sub' ae s y) (PE.sub' ae s z)
 |.ref x=>.ref (PE.sub' ae s x)
 |.deref x=>Rm (PE.sub' ae s x)
 |.look x y z=>.look (PE.sub' ae s x) (PE.sub' ae s y) (PE.sub' ae s z)
 |.has x y=>.has (PE.sub' ae s x) (PE.sub' ae s y)
 |.put x y z=>.put (PE.sub' ae s x) (PE.sub' ae s y) (PE.sub' ae s z)
 |.mn x y=>.mn (PE.sub' ae s x) (PE.sub' ae s y)
 |.mx x y=>.mx (PE.sub' ae s x) (PE.sub' ae s y)
 |.tup es=>.tup (PE.subs' ae s es)
 |.tget x i=>Xr (PE.sub' ae s x) i
 |.clo f es=>.clo f (PE.subs' ae s es)
 |.an x y=>.an (PE.sub' ae s x) (PE.sub' ae s y)
 |.imp c x=>.nt (.an (Fg s c) (.nt (PE.sub' ae s x)))
def PE.subs' (ae:bV)(s:SE):List PE→List PE
 |[]=>[]
 |e::es=>PE.sub' ae s e::PE.subs' ae s es
end
mutual
theorem PE.sub_ev {ae:bV}{ρ:Env}(h:ae.ok ρ)(s:SE):∀(e:PE),(PE.sub' ae s e).ev ρ=e.ev (s.ev ρ)
 |.r t=>rfl
 |.o j=>rfl
 |.con d=>rfl
 |.cell e i=>by simp only[PE.sub',amp,PE.ev,PE.sub_ev h s e]
 |.sub e a b=>by simp only[PE.sub',PE.ev,PE.sub_ev h s e]
 |.setc e q x=>by simp only[PE.sub',PE.ev,PE.sub_ev h s e,PE.sub_ev h s x]
 |.mk es=>by simp only[PE.sub',PE.ev,PE.subc_ev h s es]
 |.ai op k x y=>by simp only[PE.sub',PE.ev,PE.sub_ev h s x,PE.sub_ev h s y]
 |.ci op x y=>by simp only[PE.sub',PE.ev,PE.sub_ev h s x,PE.sub_ev h s y]
 |.cb op x y=>by simp only[PE.sub',PE.ev,PE.sub_ev h s x,PE.sub_ev h s y]
 |.cs op x y=>by simp only[PE.sub',PE.ev,PE.sub_ev h s x,PE.sub_ev h s y]
 |.sadd x y=>by simp only[PE.sub',PE.ev,PE.sub_ev h s x,PE.sub_ev h s y]
 |.nt x=>by simp only[PE.sub',PE.ev,PE.sub_ev h s x]
 |.conv k x=>by simp only[PE.sub',PE.ev,PE.sub_ev h s x]
 |.pick c a b=>by simp only[PE.sub',Vq h,PE.ev,PE.sub_ev h s c,PE.sub_ev h s a,PE.sub_ev h s b]
 |.llen x=>by simp only[PE.sub',PE.ev,PE.sub_ev h s x]
 |.bytes x=>by simp only[PE.sub',PE.ev,PE.sub_ev h s x]
 |.slen x=>by simp only[PE.sub',PE.ev,PE.sub_ev h s x]
 |.mlen x=>by simp only[PE.sub',PE.ev,PE.sub_ev h s x]
 |.nth x y=>by simp only[PE.sub',PE.ev,PE.sub_ev h s x,PE.sub_ev h s y]
 |.idx x y=>by simp only[PE.sub',PE.ev,PE.sub_ev h s x,PE.sub_ev h s y]
 |.sidx x y=>by simp only[PE.sub',PE.ev,PE.sub_ev h s x,PE.sub_ev h s y]
 |.sok x y=>by simp only[PE.sub',PE.ev,PE.sub_ev h s x,PE.sub_ev h s y]
 |.setn x y n z=>by simp only[PE.sub',PE.ev,PE.sub_ev h s x,PE.sub_ev h s y,PE.sub_ev h s z]
 |.app x y=>by simp only[PE.sub',PE.ev,PE.sub_ev h s x,PE.sub_ev h s y]
 |.lst es=>by simp only[PE.sub',PE.ev,PE.subs_ev h s es]
 |.rep x y=>by simp only[PE.sub',PE.ev,PE.sub_ev h s x,PE.sub_ev h s y]
 |.slc x y z=>by simp only[PE.sub',PE.ev,PE.sub_ev h s x,PE.sub_ev h s y,PE.sub_ev h s z]
 |.slok x y z=>by simp only[PE.sub',PE.ev,PE.sub_ev h s x,PE.sub_ev h s y,PE.sub_ev h s z]
 |.ref x=>by simp only[PE.sub',PE.ev,PE.sub_ev h s x]
 |.deref x=>by simp only[PE.sub',anq,PE.ev,PE.sub_ev h s x]
 |.look x y z=>by simp only[PE.sub',PE.ev,PE.sub_ev h s x,PE.sub_ev h s y,PE.sub_ev h s z]
 |.has x y=>by simp only[PE.sub',PE.ev,PE.sub_ev h s x,PE.sub_ev h s y]
 |.put x y z=>by simp only[PE.sub',PE.ev,PE.sub_ev h s x,PE.sub_ev h s y,PE.sub_ev h s z]
 |.mn x y=>by simp only[PE.sub',PE.ev,PE.sub_ev h s x,PE.sub_ev h s y]
 |.mx x y=>by simp only[PE.sub',PE.ev,PE.sub_ev h s x,PE.sub_ev h s y]
 |.tup es=>by simp only[PE.sub',PE.ev,PE.subs_ev h s es]
 |.tget x i=>by simp only[PE.sub',ayY,PE.ev,PE.sub_ev h s x]
 |.clo f es=>by simp only[PE.sub',PE.ev,PE.subs_ev h s es]
 |.an x y=>by simp only[PE.sub',PE.ev,PE.sub_ev h s x,PE.sub_ev h s y]
 |.imp c x=>by
  simp only[PE.sub',PE.ev,D.b_bool,ac0,PE.sub_ev h s x];cases holds c (s.ev ρ)<;>cases(x.ev (s.ev ρ)).b<;>rfl
theorem PE.subs_ev {ae:bV}{ρ:Env}(h:ae.ok ρ)(s:SE):∀(es:List PE),PE.evs ρ (PE.subs' ae s es)=PE.evs (s.ev ρ) es
 |[]=>rfl
 |e::es=>by simp only[PE.subs',PE.evs,PE.sub_ev h s e,PE.subs_ev h s es]
theorem PE.subc_ev {ae:bV}{ρ:Env}(h:ae.ok ρ)(s:SE):∀(es:List PE),PE.evc ρ (PE.subs' ae s es)=PE.evc (s.ev ρ) es
 |[]=>rfl
 |e::es=>by simp only[PE.subs',PE.evc,PE.sub_ev h s e,PE.subc_ev h s es]
end
inductive PT where
 |next (s:SE)
 |exit (id:Nat) (s:SE)
 |ret (e:PE)
 |chk (e:PE) (k:PT)
 |ite (c:PE) (a b:PT)
 |call (s:SE) (gs:List (Nat×Bool)) (dst f:Nat) (args:List PE) (k:PT)
 |callc (s:SE) (gs:List (Nat×Bool)) (dst:Nat) (e:PE) (args:List PE) (k:PT)
 |mcall (s:SE) (j f:Nat) (args:List PE) (k:PT)
 |iteS (s:SE) (c:PE) (lr lo:List Nat) (a b k:PT)
 |blockS (s:SE) (id:Nat) (lr lo:List Nat) (a k:PT)
 |brk (s:SE) (c:PC) (k:PT)
def aH (T:cG):PT→Env→(Out→Prop)→Prop
 |.next s,ρ,Q=>Q (.next (s.ev ρ))
 |.exit id s,ρ,Q=>Q (.exit id (s.ev ρ))
 |.ret e,ρ,Q=>Q (.ret (e.ev ρ))
 |.chk e k,ρ,Q=>(e.ev ρ).b=true∧aH T k ρ Q
 |.ite c a b,ρ,Q=>if(c.ev ρ).b=true then aH T a ρ Q else aH T b ρ Q
 |.call s gs dst f args k,ρ,Q=>if holds gs (s.ev ρ)=true then ∃d,aj T f (PE.evs ρ args) d∧aH T k ((s.ev ρ).setR dst d) Q else aH T k (s.ev ρ) Q
 |.callc s gs dst e args k,ρ,Q=>if holds gs (s.ev ρ)=true then ∃f caps d,e.ev ρ=.clo f caps∧aj T f (PE.evs ρ args++caps) d∧aH T k ((s.ev ρ).setR dst d) Q else aH T k (s.ev ρ) Q
 |.mcall s j f args k,ρ,Q=>∃d,aj T f (PE.evs ρ args) d∧aH T k ((s.ev ρ).setO j d) Q
 |.iteS s c lr lo a b k,ρ,Q=>if(c.ev ρ).b=true then aH T a (s.ev ρ) (lx (s.ev ρ) lr lo (gC (fun ρ'=>aH T k ρ' Q) Q)) else aH T b (s.ev ρ) (lx (s.ev ρ) lr lo (gC (fun ρ'=>aH T k ρ' Q) Q))
 |.blockS s id lr lo a k,ρ,Q=>aH T a (s.ev ρ) (mw (s.ev ρ) id lr lo (gC (fun ρ'=>aH T k ρ' Q) Q))
 |.brk s c k,ρ,Q=>aK T c (s.ev ρ) (gC (fun ρ'=>aH T k ρ' Q) Q)
def pK:PI→Bool
 |.setR ..|.setO ..|.chk _=>true
 |_=>false
def dW:PC→Bool
 |.loop ..=>false
 |.each ..=>false
 |.meach ..=>false
 |.seq a b=>dW a&&dW b
 |.ite _ _ _ a b=>dW a&&dW b
 |.block _ _ _ a=>dW a
 |.is l=>l.all pK
 |_=>true
abbrev Kn:=bV→SE→PT
abbrev Kx:=bV→Nat→SE→PT
def oE:List PI→bV→SE→Kn→PT
 |[],ae,s,k=>k ae s
 |.setR t e::l,ae,s,k=>oE l ae (s.setR t (e.sub' ae s)) k
 |.setO t e::l,ae,s,k=>oE l ae (s.setO t (e.sub' ae s)) k
 |.chk e::l,ae,s,k=>
  match w7 ae (e.sub' ae s) with
  |some true=>oE l ae s k
  |_=>.chk (e.sub' ae s) (oE l ((e.sub' ae s,true)::ae) s k)
 |.call gs dst f args::l,ae,s,k=>.call s gs dst f (PE.subs' ae s args) (oE l [] .id k)
 |.callc gs dst e args::l,ae,s,k=>.callc s gs dst (e.sub' ae s) (PE.subs' ae s args) (oE l [] .id k)
 |.mcall j f args::l,ae,s,k=>.mcall s j f (PE.subs' ae s args) (oE l [] .id k)
def SE.merge (s:SE)(ae:bV)(lr lo:List Nat)(c:PE)(a b:SE):SE:=⟨lr.map (fun t=>(t,uP ae c (a.getR t) (b.getR t)))++s.r,lo.map (fun t=>(t,uP ae c (a.getO t) (b.getO t)))++s.o⟩
def rk:List PI→bV→SE→Option SE
 |[],_,s=>some s
 |.setR t e::l,ae,s=>rk l ae (s.setR t (e.sub' ae s))
 |.setO t e::l,ae,s=>rk l ae (s.setO t (e.sub' ae s))
 |_::_,_,_=>none
def plain:PC→bV→SE→Option SE
 |.skip,_,s=>some s
 |.is l,ae,s=>rk l ae s
 |.seq a b,ae,s=>(plain a ae s).bind fun s=>plain b ae s
 |.ite c lr lo a b,ae,s=>(plain a ae s).bind fun sa=>(plain b ae s).map fun sb=>s.merge ae lr lo (c.sub' ae s) sa sb
 |_,_,_=>none
def ae5:PC→Bool
 |.loop ..=>true
 |_=>false
def sx:PC→bV→SE→Kn→Kx→PT
 |.skip,ae,s,k,_=>k ae s
 |.is l,ae,s,k,_=>oE l ae s k
 |.seq a b,ae,s,k,kx=>sx a ae s (fun ae s=>sx b ae s k kx) kx
 |.ite c lr lo a b,ae,s,k,kx=>
  match w7 ae (c.sub' ae s) with
  |some true=>bif dW a then sx a ae s (fun ae s'=>k ae (s.join lr lo s')) kx else .iteS s (c.sub' ae s) lr lo (sx a [] .id (fun _ s=>.next s) (fun _ id s=>.exit id s)) (sx b [] .id (fun _ s=>.next s) (fun _ id s=>.exit id s)) (k [] .id)
  |some false=>bif dW b then sx b ae s (fun ae s'=>k ae (s.join lr lo s')) kx else .iteS s (c.sub' ae s) lr lo (sx a [] .id (fun _ s=>.next s) (fun _ id s=>.exit id s)) (sx b [] .id (fun _ s=>.next s) (fun _ id s=>.exit id s)) (k [] .id)
  |none=>
   match plain a ae s,plain b ae s with
   |some sa,some sb=>k ae (s.merge ae lr lo (c.sub' ae s) sa sb)
   |_,_=>
   bif dW a&&dW b then
    .ite (c.sub' ae s) (sx a ((c.sub' ae s,true)::ae) s (fun ae s'=>k ae (s.join lr lo s')) kx) (sx b ((c.sub' ae s,false)::ae) s (fun ae s'=>k ae (s.join lr lo s')) kx)
   else .iteS s (c.sub' ae s) lr lo (sx a [] .id (fun _ s=>.next s) (fun _ id s=>.exit id s)) (sx b [] .id (fun _ s=>.next s) (fun _ id s=>.exit id s)) (k [] .id)
 |.block id lr lo a,ae,s,k,kx=>
  bif dW a then sx a ae s (fun ae s'=>k ae (s.join lr lo s')) (fun ae bS s'=>bif Nat.beq bS id then k ae (s.join lr lo s') else kx ae bS s')
  else bif ae5 a then .brk s (.block id lr lo a) (k [] .id)
  else .blockS s id lr lo (sx a [] .id (fun _ s=>.next s) (fun _ id s=>.exit id s)) (k [] .id)
 |.loop lr lo a,_,s,k,_=>.brk s (.loop lr lo a) (k [] .id)
 |.each e ps lo rt a,_,s,k,_=>.brk s (.each e ps lo rt a) (k [] .id)
 |.meach J ps dj lo a,_,s,k,_=>.brk s (.meach J ps dj lo a) (k [] .id)
 |.exit id,ae,s,_,kx=>kx ae id s
 |.ret e,ae,s,_,_=>.ret (e.sub' ae s)
theorem bV.ok_nil (ρ:Env):bV.ok [] ρ:=fun _ h=>nomatch h
theorem bV.ok_cons {ae:bV}{ρ:Env}{e:PE}{b:Bool}(h:ae.ok ρ)(he:(e.ev ρ).b=b):bV.ok ((e,b)::ae) ρ:=fun x hx=>by
 rcases cC.1 hx with e'|hx
 ·rw[e'];exact he
 ·exact h x hx
theorem tw {T:cG}{Q:Out→Prop}{K:Env→Prop}{k:Kn}:∀{l:List PI} {ae:bV} {s:SE} {ρ:Env},ae.ok ρ→aH T (oE l ae s k) ρ Q→
 (∀ρ' ae s,(l.all pK=true→ρ'=ρ)→ae.ok ρ'→aH T (k ae s) ρ' Q→K (s.ev ρ'))→iy T l (s.ev ρ) K
 |[],ae,s,ρ,ha,h,hk=>hk ρ ae s (fun _=>rfl) ha h
 |.setR t e::l,ae,s,ρ,ha,h,hk=>by
  simp only[iy];rw[←PE.sub_ev ha s e,←SE.setR_ev];exact tw ha h fun ρ' ae s hp=>hk ρ' ae s fun hl=>hp (by simpa [pK] using hl)
 |.setO t e::l,ae,s,ρ,ha,h,hk=>by
  simp only[iy];rw[←PE.sub_ev ha s e,←SE.setO_ev];exact tw ha h fun ρ' ae s hp=>hk ρ' ae s fun hl=>hp (by simpa [pK] using hl)
 |.chk e::l,ae,s,ρ,ha,h,hk=>by
  simp only[iy];rw[←PE.sub_ev ha s e];simp only[oE] at h;split at h
  ·rename_i ht;exact⟨zV ha ht,tw ha h fun ρ' ae s hp=>hk ρ' ae s fun hl=>hp (by simpa [pK] using hl)⟩
  ·exact⟨h.1,tw (bV.ok_cons ha h.1) h.2 fun ρ' ae s hp=>hk ρ' ae s fun hl=>hp (by simpa [pK] using hl)⟩
 |.call gs dst f args::l,ae,s,ρ,ha,h,hk=>by
  simp only[iy];simp only[oE,aH,PE.subs_ev ha,PE.sub_ev ha] at h;have bp:∀{ρ0:Env},∀ρ' ae s,(l.all pK=true→ρ'=ρ0)→ae.ok ρ'→aH T (k ae s) ρ' Q→K (s.ev ρ'):=fun ρ' ae s _=>hk ρ' ae s fun hl=>by simp[pK] at hl
  split at h
  ·rename_i hg;rw[if_pos hg];obtain⟨d,hd,h⟩:=h;exact⟨d,hd,tw (s:=.id) (bV.ok_nil _) h bp⟩
  ·rename_i hg;rw[if_neg hg];exact tw (s:=.id) (bV.ok_nil _) h bp
 |.callc gs dst e args::l,ae,s,ρ,ha,h,hk=>by
  simp only[iy];simp only[oE,aH,PE.subs_ev ha,PE.sub_ev ha] at h;have bp:∀{ρ0:Env},∀ρ' ae s,(l.all pK=true→ρ'=ρ0)→ae.ok ρ'→aH T (k ae s) ρ' Q→K (s.ev ρ'):=fun ρ' ae s _=>hk ρ' ae s fun hl=>by simp[pK] at hl
  split at h
  ·rename_i hg;rw[if_pos hg];obtain⟨f,caps,d,he,hd,h⟩:=h;exact⟨f,caps,d,he,hd,tw (s:=.id) (bV.ok_nil _) h bp⟩
  ·rename_i hg;rw[if_neg hg];exact tw (s:=.id) (bV.ok_nil _) h bp
 |.mcall j f args::l,ae,s,ρ,ha,h,hk=>by
  simp only[iy];simp only[oE,aH,PE.subs_ev ha,PE.sub_ev ha] at h;have bp:∀{ρ0:Env},∀ρ' ae s,(l.all pK=true→ρ'=ρ0)→ae.ok ρ'→aH T (k ae s) ρ' Q→K (s.ev ρ'):=fun ρ' ae s _=>hk ρ' ae s fun hl=>by simp[pK] at hl
  obtain⟨d,hd,h⟩:=h;exact⟨d,hd,tw (s:=.id) (bV.ok_nil _) h bp⟩
theorem SE.merge_ev {ae:bV}{ρ:Env}(h:ae.ok ρ)(s a b:SE)(lr lo:List Nat)(c:PE):(s.merge ae lr lo c a b).ev ρ=(s.ev ρ).join lr lo (if(c.ev ρ).b=true then a.ev ρ else b.ev ρ):=by
 have h1:∀u,((s.merge ae lr lo c a b).getR u).ev ρ=((s.ev ρ).join lr lo (if(c.ev ρ).b=true then a.ev ρ else b.ev ρ)).r u:=by
  intro u;rw[Env.join_r];have e:bL (s.merge ae lr lo c a b).r u=if u∈lr then some (uP ae c (a.getR u) (b.getR u)) else bL s.r u:=zb lr;have e2:(s.merge ae lr lo c a b).getR u=if u∈lr then uP ae c (a.getR u) (b.getR u) else s.getR u:=by
   unfold SE.getR;rw[e];by_cases h:u∈lr<;>simp[h,SE.getR]
  rw[e2];by_cases hu:u∈lr
  ·simp only[hu,if_true,Vq h,PE.ev];cases hc:(c.ev ρ).b<;>simp[SE.ev]
  ·simp only[hu,if_false];rfl
 have h2:∀u,((s.merge ae lr lo c a b).getO u).ev ρ=((s.ev ρ).join lr lo (if(c.ev ρ).b=true then a.ev ρ else b.ev ρ)).o u:=by
  intro u;rw[Env.join_o];have e:bL (s.merge ae lr lo c a b).o u=if u∈lo then some (uP ae c (a.getO u) (b.getO u)) else bL s.o u:=zb lo;have e2:(s.merge ae lr lo c a b).getO u=if u∈lo then uP ae c (a.getO u) (b.getO u) else s.getO u:=by
   unfold SE.getO;rw[e];by_cases h:u∈lo<;>simp[h,SE.getO]
  rw[e2];by_cases hu:u∈lo
  ·simp only[hu,if_true,Vq h,PE.ev];cases hc:(c.ev ρ).b<;>simp[SE.ev]
  ·simp only[hu,if_false];rfl
 have e1:(fun u=>((s.merge ae lr lo c a b).getR u).ev ρ)=((s.ev ρ).join lr lo (if(c.ev ρ).b=true then a.ev ρ else b.ev ρ)).r:=funext h1;have e2:(fun u=>((s.merge ae lr lo c a b).getO u).ev ρ)=((s.ev ρ).join lr lo (if(c.ev ρ).b=true then a.ev ρ else b.ev ρ)).o:=funext h2;show Env.mk _ _=_;rw[e1,e2]
theorem Vt {T:cG}{ae:bV}{ρ:Env}(ha:ae.ok ρ):∀{l:List PI} {s s':SE},rk l ae s=some s'→∀{K:Env→Prop},K (s'.ev ρ)→iy T l (s.ev ρ) K
 |[],s,s',h,K,hk=>by simp only[rk,bj] at h;subst h;exact hk
 |.setR t e::l,s,s',h,K,hk=>by simp only[iy];rw[←PE.sub_ev ha s e,←SE.setR_ev];exact Vt (l:=l) ha (show rk l ae _=some s' from h) hk
 |.setO t e::l,s,s',h,K,hk=>by simp only[iy];rw[←PE.sub_ev ha s e,←SE.setO_ev];exact Vt (l:=l) ha (show rk l ae _=some s' from h) hk
 |.chk _::_,_,_,h,_,_=>by simp[rk] at h
 |.call ..::_,_,_,h,_,_=>by simp[rk] at h
 |.callc ..::_,_,_,h,_,_=>by simp[rk] at h
 |.mcall ..::_,_,_,h,_,_=>by simp[rk] at h
theorem awG {T:cG}{ae:bV}{ρ:Env}(ha:ae.ok ρ):∀(c:PC) {s s':SE},plain c ae s=some s'→∀{Q:Out→Prop},Q (.next (s'.ev ρ))→aK T c (s.ev ρ) Q:=by
 intro c
 induction c with
 |skip=>intro s s' h Q hq;simp only[plain,bj] at h;subst h;exact .skip hq
 |is l=>intro s s' h Q hq;exact .is (Vt ha h hq)
 |seq a b bH eG=>
  intro s s' h Q hq;simp only[plain,aA] at h;obtain⟨s1,h1,h2⟩:=h;exact .seq (bH h1 (eG h2 hq))
 |ite c lr lo a b bH eG=>
  intro s s' h Q hq;simp only[plain,aA,aC] at h;obtain⟨sa,h1,sb,h2,rfl⟩:=h;rw[SE.merge_ev ha,PE.sub_ev ha] at hq;refine .ite ?_;split
  ·rename_i hc;rw[if_pos hc] at hq;exact bH h1 hq
  ·rename_i hc;rw[if_neg hc] at hq;exact eG h2 hq
 |_=>intro s s' h;simp[plain] at h
theorem OX {T:cG}:∀(c:PC) {ae:bV} {s:SE} {k:Kn} {kx:Kx} {ρ:Env} {Q Q':Out→Prop},ae.ok ρ→aH T (sx c ae s k kx) ρ Q→
 (∀ρ' ae s,(dW c=true→ρ'=ρ)→ae.ok ρ'→aH T (k ae s) ρ' Q→Q' (.next (s.ev ρ')))→
 (∀ρ' ae id s,(dW c=true→ρ'=ρ)→ae.ok ρ'→aH T (kx ae id s) ρ' Q→Q' (.exit id (s.ev ρ')))→(dW c=false→∀id ρ',Q (.exit id ρ')→Q' (.exit id ρ'))→(∀d,Q (.ret d)→Q' (.ret d))→aK T c (s.ev ρ) Q':=by
 intro c;have alone:∀(a:PC),(∀{ae:bV} {s:SE} {k:Kn} {kx:Kx} {ρ:Env} {Q Q':Out→Prop},ae.ok ρ→aH T (sx a ae s k kx) ρ Q→
  (∀ρ' ae s,(dW a=true→ρ'=ρ)→ae.ok ρ'→aH T (k ae s) ρ' Q→Q' (.next (s.ev ρ')))→
  (∀ρ' ae id s,(dW a=true→ρ'=ρ)→ae.ok ρ'→aH T (kx ae id s) ρ' Q→Q' (.exit id (s.ev ρ')))→(dW a=false→∀id ρ',Q (.exit id ρ')→Q' (.exit id ρ'))→(∀d,Q (.ret d)→Q' (.ret d))→aK T a (s.ev ρ) Q')→
  ∀{ρ:Env} {Q:Out→Prop},aH T (sx a [] .id (fun _ s=>.next s) (fun _ id s=>.exit id s)) ρ Q→aK T a ρ Q:=by
  intro a ih ρ Q h;exact ih (s:=.id) (bV.ok_nil _) h (fun ρ' ae s _ _ h=>h) (fun ρ' ae id s _ _ h=>h) (fun _ _ _ h=>h) (fun _ h=>h)
 induction c with
 |skip=>intro ae s k kx ρ Q Q' ha h hk _ _ _;exact .skip (hk ρ ae s (fun _=>rfl) ha h)
 |is l=>intro ae s k kx ρ Q Q' ha h hk _ _ _;exact .is (tw (K:=fun ρ'=>Q' (.next ρ')) ha h hk)
 |seq a b bH eG=>
  intro ae s k kx ρ Q Q' ha h hk hx kG hr;refine .seq (bH ha h (Q':=gC (fun ρ'=>aK T b ρ' Q') Q') (fun ρ' ae s hp yq h'=>?_) (fun ρ' ae id s hp yq h'=>?_) (fun hp=>?_) hr)
  ·refine eG yq h' (fun ρ2 ae s fl=>hk ρ2 ae s fun hl=>?_) (fun ρ2 ae id s fl=>hx ρ2 ae id s fun hl=>?_) (fun fl=>?_) hr
   ·simp only[dW,aw] at hl;rw[fl hl.2,hp hl.1]
   ·simp only[dW,aw] at hl;rw[fl hl.2,hp hl.1]
   ·exact kG (by simp[dW,fl])
  ·exact hx ρ' ae id s (fun hl=>by simp only[dW,aw] at hl;exact hp hl.1) yq h'
  ·exact kG (by simp[dW,hp])
 |ite c lr lo a b bH eG=>
  intro ae s k kx ρ Q Q' ha h hk hx kG hr;have bN:((c.sub' ae s).ev ρ).b=(c.ev (s.ev ρ)).b:=by rw[PE.sub_ev ha]
  have struct:(dW a&&dW b)=false→aH T (.iteS s (c.sub' ae s) lr lo (sx a [] .id (fun _ s=>.next s) (fun _ id s=>.exit id s)) (sx b [] .id (fun _ s=>.next s) (fun _ id s=>.exit id s)) (k [] .id)) ρ Q→aK T (.ite c lr lo a b) (s.ev ρ) Q':=by
   intro F0 h;have sI:dW (.ite c lr lo a b)=false:=F0;simp only[aH,bN] at h
   have conv:∀x,lx (s.ev ρ) lr lo (gC (fun ρ'=>aH T (k [] .id) ρ' Q) Q) x→lx (s.ev ρ) lr lo Q' x:=by
      intro x dh;cases x with
      |next ρ'=>exact hk _ [] .id (fun hl=>by rw[sI] at hl;cases hl) (bV.ok_nil _) dh
      |exit id ρ'=>exact kG sI id ρ' dh
      |ret d=>exact hr d dh
   refine .ite ?_;split at h
   ·rename_i hc;rw[if_pos hc];exact(alone a bH h).mono conv
   ·rename_i hc;rw[if_neg hc];exact(alone b eG h).mono conv
  have inA:∀xR,xR.ok ρ→dW a=true→aH T (sx a xR s (fun ae s'=>k ae (s.join lr lo s')) kx) ρ Q→aK T a (s.ev ρ) (lx (s.ev ρ) lr lo Q'):=by
   intro xR yq eF h';refine bH yq h' (fun ρ' ae s' hp oY kZ=>?_) (fun ρ' ae id s' hp oY kZ=>?_) (fun hp=>by rw[eF] at hp;cases hp) hr
   ·have e:=hp eF;subst e;show Q' (.next _);rw[←SE.join_ev];exact hk ρ' ae _ (fun _=>rfl) oY kZ
   ·have e:=hp eF;subst e;exact hx ρ' ae id s' (fun _=>rfl) oY kZ
  have aE:∀xR,xR.ok ρ→dW b=true→aH T (sx b xR s (fun ae s'=>k ae (s.join lr lo s')) kx) ρ Q→aK T b (s.ev ρ) (lx (s.ev ρ) lr lo Q'):=by
   intro xR yq eF h';refine eG yq h' (fun ρ' ae s' hp oY kZ=>?_) (fun ρ' ae id s' hp oY kZ=>?_) (fun hp=>by rw[eF] at hp;cases hp) hr
   ·have e:=hp eF;subst e;show Q' (.next _);rw[←SE.join_ev];exact hk ρ' ae _ (fun _=>rfl) oY kZ
   ·have e:=hp eF;subst e;exact hx ρ' ae id s' (fun _=>rfl) oY kZ
  simp only[sx] at h;split at h
  ·rename_i ht;cases eF:dW a<;>simp only[eF,cond_true,cond_false] at h
   ·exact struct (by simp[eF]) h
   ·refine .ite ?_;rw[if_pos (by rw[←bN];exact zV ha ht)];exact inA ae ha eF h
  ·rename_i ht;cases eF:dW b<;>simp only[eF,cond_true,cond_false] at h
   ·exact struct (by simp[eF]) h
   ·refine .ite ?_;rw[if_neg (by rw[←bN,zV ha ht];simp)];exact aE ae ha eF h
  ·split at h
   ·rename_i sa sb hsa kE;have jH:plain (.ite c lr lo a b) ae s=some (s.merge ae lr lo (c.sub' ae s) sa sb):=by simp[plain,hsa,kE]
    exact awG ha _ jH (hk ρ ae _ (fun _=>rfl) ha h)
   cases eF:(dW a&&dW b)<;>simp only[eF,cond_true,cond_false] at h
   ·exact struct eF h
   ·simp only[aw] at eF;simp only[aH] at h;refine .ite ?_;rw[←bN];split at h
    ·rename_i hc;rw[if_pos hc];exact inA _ (bV.ok_cons ha hc) eF.1 h
    ·rename_i hc;rw[if_neg hc];exact aE _ (bV.ok_cons ha (by simpa using hc)) eF.2 h
 |block id lr lo a bH=>
  intro ae s k kx ρ Q Q' ha h hk hx kG hr;simp only[sx] at h;cases eF:dW a<;>simp only[eF,cond_true,cond_false] at h
  ·have sI:dW (.block id lr lo a)=false:=eF;cases hl:ae5 a<;>simp only[hl,cond_true,cond_false] at h
   case true=>
        simp only[aH] at h;refine aK.mono h fun x dh=>?_;cases x with
        |next ρ'=>exact hk _ [] .id (fun hl=>by rw[sI] at hl;cases hl) (bV.ok_nil _) dh
        |exit id ρ'=>exact kG sI id ρ' dh
        |ret d=>exact hr d dh
   simp only[aH] at h;refine .block ((alone a bH h).mono fun x dh=>?_);cases x with
   |next ρ'=>exact hk _ [] .id (fun hl=>by rw[sI] at hl;cases hl) (bV.ok_nil _) dh
   |exit bS ρ'=>
    simp only[mw] at dh ⊢;split
    ·rename_i e;rw[if_pos e] at dh;exact hk _ [] .id (fun hl=>by rw[sI] at hl;cases hl) (bV.ok_nil _) dh
    ·rename_i e;rw[if_neg e] at dh;exact kG sI bS ρ' dh
   |ret d=>exact hr d dh
  ·refine .block (bH ha h (fun ρ' ae s' hp oY kZ=>?_) (fun ρ' ae bS s' hp oY kZ=>?_) (fun hp=>by rw[eF] at hp;cases hp) hr)
   ·have e:=hp eF;subst e;show Q' (.next _);rw[←SE.join_ev];exact hk ρ' ae _ (fun _=>rfl) oY kZ
   ·have e:=hp eF;subst e;simp only[mw];by_cases cL:bS=id
    ·subst cL;simp only[lP,cond_true] at kZ;rw[if_pos rfl,←SE.join_ev];exact hk ρ' ae _ (fun _=>rfl) oY kZ
    ·rw[ga cL,cond_false] at kZ;rw[if_neg cL];exact hx ρ' ae bS s' (fun _=>rfl) oY kZ
 |loop lr lo a bH=>
  intro ae s k kx ρ Q Q' ha h hk hx kG hr;simp only[sx,aH] at h;refine aK.mono h fun x dh=>?_;cases x with
  |next ρ'=>exact hk _ [] .id (fun hl=>by cases hl) (bV.ok_nil _) dh
  |exit id ρ'=>exact kG rfl id ρ' dh
  |ret d=>exact hr d dh
 |each e ps lo rt a bH=>
  intro ae s k kx ρ Q Q' ha h hk hx kG hr;simp only[sx,aH] at h;refine aK.mono h fun x dh=>?_;cases x with
  |next ρ'=>exact hk _ [] .id (fun hl=>by cases hl) (bV.ok_nil _) dh
  |exit id ρ'=>exact kG rfl id ρ' dh
  |ret d=>exact hr d dh
 |meach J ps dj lo a bH=>
  intro ae s k kx ρ Q Q' ha h hk hx kG hr;simp only[sx,aH] at h;refine aK.mono h fun x dh=>?_;cases x with
  |next ρ'=>exact hk _ [] .id (fun hl=>by cases hl) (bV.ok_nil _) dh
  |exit id ρ'=>exact kG rfl id ρ' dh
  |ret d=>exact hr d dh
 |exit id=>intro ae s k kx ρ Q Q' ha h _ hx _ _;exact .exit (hx ρ ae id s (fun _=>rfl) ha h)
 |ret e=>
  intro ae s k kx ρ Q Q' ha h _ _ _ hr;simp only[sx,aH] at h;refine .ret (hr _ ?_);rw[PE.sub_ev ha] at h;exact h
def Lk.un (a b:Lk):Lk:=⟨Nat.lor a.r b.r,jT a.o b.o⟩
def bits (l:List Nat):Nat:=l.foldr (fun t m=>Nat.lor (iu t) m) 0
theorem QT {l:List Nat}{t:Nat}(h:t∈l):aU (bits l) t=true:=by
 induction l with
 |nil=>cases h
 |cons x l ih=>
  show aU (Nat.lor (iu x) (bits l)) t=true;rw[gJ];rcases cC.1 h with e|h
  ·subst e;rw[rZ];rfl
  ·rw[ih h,tG]
theorem aah:∀{a b:List Nat} {x:Nat},x∈jT a b↔x∈a∨x∈b
 |[],b,x=>by simp[jT]
 |y::a,b,x=>by
  have ih:=aah (a:=a) (b:=bif fR b y then b else y::b) (x:=x);show x∈jT a _↔_;rw[ih];cases hb:fR b y with
  |true=>simp only[cond_true,cC];have:=(sU b y).1 hb;constructor
         ·rintro(h|h);exact .inl (.inr h);exact .inr h
         ·rintro((rfl|h)|h);exact .inr this;exact .inl h;exact .inr h
  |false=>simp only[cond_false,cC];constructor
          ·rintro(h|h|h);exact .inl (.inr h);exact .inl (.inl h);exact .inr h
          ·rintro((h|h)|h);exact .inr (.inl h);exact .inl h;exact .inr (.inr h)
def Lk.Le (a K:Lk):Prop:=(∀t,aU a.r t=true→aU K.r t=true)∧∀j,j∈a.o→j∈K.o
theorem Lk.le_l (a b:Lk):a.Le (a.un b):=⟨fun t h=>by simp only[Lk.un,gJ,h,DL],fun j h=>aah.2 (.inl h)⟩
theorem Lk.le_r (a b:Lk):b.Le (a.un b):=⟨fun t h=>by simp only[Lk.un,gJ,h,tG],fun j h=>aah.2 (.inr h)⟩
theorem Lk.Le.trans {a b c:Lk}(h:a.Le b)(k:b.Le c):a.Le c:=⟨fun t ht=>k.1 t (h.1 t ht),fun j hj=>k.2 j (h.2 j hj)⟩
theorem Alike.le {a K:Lk}{ρ ρ':Env}(h:Alike K ρ ρ')(k:a.Le K):Alike a ρ ρ':=⟨fun t ht=>h.r t (k.1 t ht),fun j hj=>h.o j (k.2 j hj)⟩
theorem Lk.Le.of_un {a b K:Lk}(h:(a.un b).Le K):a.Le K∧b.Le K:=⟨(Lk.le_l a b).trans h,(Lk.le_r a b).trans h⟩
theorem Alike.setR {K:Lk}{ρ ρ':Env}(h:Alike K ρ ρ')(t:Nat)(d:D):Alike K (ρ.setR t d) (ρ'.setR t d):=⟨fun u hu=>by rw[Env.setR_r,Env.setR_r];split;rfl;exact h.r u hu,h.o⟩
theorem Alike.setO {K:Lk}{ρ ρ':Env}(h:Alike K ρ ρ')(t:Nat)(d:D):Alike K (ρ.setO t d) (ρ'.setO t d):=⟨h.r,fun u hu=>by rw[Env.setO_o,Env.setO_o];split;rfl;exact h.o u hu⟩
theorem Alike.join {K:Lk}{ρ ρ' η η':Env}(h:Alike K ρ ρ')(k:Alike K η η')(lr lo:List Nat):Alike K (ρ.join lr lo η) (ρ'.join lr lo η'):=
 ⟨fun u hu=>by rw[Env.join_r,Env.join_r];split;exact k.r u hu;exact h.r u hu,fun u hu=>by rw[Env.join_o,Env.join_o];split;exact k.o u hu;exact h.o u hu⟩
theorem Vv {f g:Nat→D}{u:Nat}(h:g u=f u):∀(ts:List Nat) (xs:List D),putL g ts xs u=putL f ts xs u
 |[],xs=>by rw[Nl,Nl];exact h
 |t::ts,[]=>by simp only[putL];exact h
 |t::ts,x::xs=>by rw[Nk,Nk];split;rfl;exact Vv h ts xs
theorem Alike.put {K:Lk}{ρ ρ':Env}(h:Alike K ρ ρ')(lr lo:List Nat)(vr vo:List D):Alike K (ρ.put lr vr lo vo) (ρ'.put lr vr lo vo):=⟨fun u hu=>Vv (h.r u hu) lr vr,fun u hu=>Vv (h.o u hu) lo vo⟩
def PI.lkw:PI→Lk
 |.setR t e=>e.lk.un ⟨iu t,[]⟩
 |.setO j e=>e.lk.un ⟨0,[j]⟩
 |.chk e=>e.lk
 |.call gs dst f aa=>(PI.call gs dst f aa).lk.un ⟨iu dst,[]⟩
 |.callc gs dst e aa=>(PI.callc gs dst e aa).lk.un ⟨iu dst,[]⟩
 |.mcall j f aa=>(PI.mcall j f aa).lk.un ⟨0,[j]⟩
def PC.lk:PC→Lk
 |.skip=>.none
 |.exit _=>.none
 |.is l=>l.foldr (fun p k=>p.lkw.un k) .none
 |.seq a b=>(PC.lk a).un (PC.lk b)
 |.ite c _ _ a b=>c.lk.un ((PC.lk a).un (PC.lk b))
 |.block _ _ _ a=>PC.lk a
 |.loop lr lo a=>(⟨bits lr,lo⟩:Lk).un (PC.lk a)
 |.ret e=>e.lk
 |.each e _ lo rt a=>e.lk.un ((match rt with|some e=>e.lk|none=>.none).un ((⟨0,lo⟩:Lk).un (PC.lk a)))
 |.meach J _ _ lo a=>(⟨0,J::lo⟩:Lk).un (PC.lk a)
structure Off (K:Lk) (b η η':Env):Prop where
 al:Alike K η η'
 r:∀t,aU K.r t=false→η'.r t=b.r t
 o:∀j,j∉K.o→η'.o j=b.o j
def vf (K:Lk)(b:Env):Out→Out→Prop
 |.next η,x=>∃η',x=.next η'∧Off K b η η'
 |.exit i η,x=>∃η',x=.exit i η'∧Off K b η η'
 |.ret d,x=>x=.ret d
theorem Off.uniq {K:Lk}{b η η' η2:Env}(h:Off K b η η')(k:Off K b η η2):η2=η':=by
 have h1:∀t,η2.r t=η'.r t:=fun t=>by
  cases hb:aU K.r t with
  |true=>rw[k.al.r t hb,h.al.r t hb]
  |false=>rw[k.r t hb,h.r t hb]
 have h2:∀t,η2.o t=η'.o t:=fun t=>by
  by_cases hb:t∈K.o
  ·rw[k.al.o t hb,h.al.o t hb]
  ·rw[k.o t hb,h.o t hb]
 cases η2;cases η'
 congr
 ·exact funext h1
 ·exact funext h2
theorem vf.uniq {K:Lk}{b:Env}{x y z:Out}(h:vf K b x y)(k:vf K b x z):z=y:=by
 cases x with
 |next η=>obtain⟨a,rfl,h⟩:=h;obtain⟨c,rfl,k⟩:=k;rw[h.uniq k]
 |exit i η=>obtain⟨a,rfl,h⟩:=h;obtain⟨c,rfl,k⟩:=k;rw[h.uniq k]
 |ret d=>rw[h,k]
theorem Off.setR {K:Lk}{b η η':Env}(h:Off K b η η'){t:Nat}(ht:aU K.r t=true)(d:D):Off K b (η.setR t d) (η'.setR t d):=
 ⟨h.al.setR t d,fun u hu=>by rw[Env.setR_r,if_neg (fun e=>by rw[e,ht] at hu;cases hu)];exact h.r u hu,h.o⟩
theorem Off.setO {K:Lk}{b η η':Env}(h:Off K b η η'){t:Nat}(ht:t∈K.o)(d:D):Off K b (η.setO t d) (η'.setO t d):=
 ⟨h.al.setO t d,h.r,fun u hu=>by rw[Env.setO_o,if_neg (fun e=>hu (by rw[e];exact ht))];exact h.o u hu⟩
theorem Off.join {K:Lk}{b η η' ζ ζ':Env}(h:Off K b η η')(k:Off K b ζ ζ')(lr lo:List Nat):Off K b (η.join lr lo ζ) (η'.join lr lo ζ'):=
 ⟨h.al.join k.al lr lo,fun u hu=>by rw[Env.join_r];split;exact k.r u hu;exact h.r u hu,fun u hu=>by rw[Env.join_o];split;exact k.o u hu;exact h.o u hu⟩
theorem Vy {f:Nat→D}{b:D}{u:Nat}(h:f u=b):∀(ts:List Nat) (xs:List D),u∉ts→putL f ts xs u=b
 |[],xs,_=>by rw[Nl];exact h
 |t::ts,[],_=>by simp only[putL];exact h
 |t::ts,x::xs,hu=>by rw[Nk,if_neg (fun e=>hu (by simp[e]))];exact Vy h ts xs (fun e=>hu (by simp[e]))
theorem Off.put {K:Lk}{b η η':Env}(h:Off K b η η'){lr lo:List Nat}(hr:∀t,t∈lr→aU K.r t=true)(ho:∀t,t∈lo→t∈K.o)(vr vo:List D):Off K b (η.put lr vr lo vo) (η'.put lr vr lo vo):=
 ⟨h.al.put lr lo vr vo,fun u hu=>Vy (h.r u hu) lr vr (fun e=>by rw[hr u e] at hu;cases hu),fun u hu=>Vy (h.o u hu) lo vo (fun e=>hu (ho u e))⟩
theorem PI.run_off {Φ:aW}{K:Lk}{b ρ ρ' η:Env}{p:PI}(hp:p.lkw.Le K)(h:Off K b ρ ρ')(hr:p.run Φ ρ=some η):∃η',p.run Φ ρ'=some η'∧Off K b η η':=by
 have uF:p.lk.Le K:=by cases p<;>first|exact hp|exact hp.of_un.1
 rw[PI.run_eff,PI.eff_alike p (h.al.le uF)];rw[PI.run_eff] at hr;cases he:p.eff Φ ρ with
 |none=>rw[he] at hr;cases hr
 |some x=>
  rw[he] at hr;simp only[kW,bj] at hr;subst hr;refine⟨_,rfl,?_⟩;have hb:∀{t:Nat} {a:Lk},(a.un ⟨iu t,[]⟩).Le K→aU K.r t=true:=fun h=>h.of_un.2.1 _ (rZ _);have ho:∀{t:Nat} {a:Lk},(a.un ⟨0,[t]⟩).Le K→t∈K.o:=fun h=>h.of_un.2.2 _ (by simp);cases p with
  |setR t e=>simp only[PI.eff,bj] at he;subst he;exact h.setR (hb hp) _
  |setO t e=>simp only[PI.eff,bj] at he;subst he;exact h.setO (ho hp) _
  |chk e=>simp only[PI.eff] at he;cases yu:(e.ev ρ).b<;>rw[yu] at he<;>cases he;exact h
  |call gs d f aa=>
   simp only[PI.eff] at he;cases yu:holds gs ρ<;>simp only[yu,cond_true,cond_false,bj,aC] at he
   ·subst he;exact h
   ·obtain⟨y,_,rfl⟩:=he;exact h.setR (hb hp) _
  |callc gs d e aa=>
   simp only[PI.eff] at he;cases yu:holds gs ρ<;>simp only[yu,cond_true,cond_false,bj] at he
   ·subst he;exact h
   ·split at he
    ·simp only[aC] at he;obtain⟨y,_,rfl⟩:=he;exact h.setR (hb hp) _
    ·cases he
  |mcall j f aa=>simp only[PI.eff,aC] at he;obtain⟨y,_,rfl⟩:=he;exact h.setO (ho hp) _
theorem PI.runs_off {Φ:aW}{K:Lk}{b:Env}:∀{l:List PI} {ρ ρ' η:Env},(l.foldr (fun p k=>p.lkw.un k) Lk.none).Le K→Off K b ρ ρ'→PI.runs Φ l ρ=some η→∃η',PI.runs Φ l ρ'=some η'∧Off K b η η'
 |[],ρ,ρ',η,_,h,hr=>by simp only[PI.runs,bj] at hr ⊢;subst hr;exact⟨_,rfl,h⟩
 |p::l,ρ,ρ',η,hl,h,hr=>by
  simp only[PI.runs,aA] at hr;obtain⟨ρ1,h1,h2⟩:=hr;obtain⟨ρ2,h3,h4⟩:=PI.run_off hl.of_un.1 h h1;obtain⟨η',h5,h6⟩:=PI.runs_off (l:=l) hl.of_un.2 h4 h2;exact⟨η',by simp only[PI.runs,h3,tN,h5],h6⟩
theorem ze {K:Lk}{b η η':Env}(h:Off K b η η'){lo:List Nat}(ho:∀t,t∈lo→t∈K.o):lo.map η'.o=lo.map η.o:=tL fun t ht=>h.al.o t (ho t ht)
theorem afN {K:Lk}{b η η':Env}(h:Off K b η η'){lr:List Nat}(hr:∀t,t∈lr→aU K.r t=true):lr.map η'.r=lr.map η.r:=tL fun t ht=>h.al.r t (hr t ht)
theorem PC.ev_off {Φ:aW}{n:Nat}{K:Lk}:∀(c:PC),c.lk.Le K→∀{b ρ ρ':Env} {x:Out},Off K b ρ ρ'→c.ev Φ n ρ=some x→∃x',c.ev Φ n ρ'=some x'∧vf K b x x':=by
 intro c
 induction c with
 |skip=>intro _ b ρ ρ' x h hr;simp only[PC.ev,bj] at hr ⊢;subst hr;exact⟨_,rfl,_,rfl,h⟩
 |exit id=>intro _ b ρ ρ' x h hr;simp only[PC.ev,bj] at hr ⊢;subst hr;exact⟨_,rfl,_,rfl,h⟩
 |ret e=>intro hk B ρ ρ' x h hr;simp only[PC.ev,bj] at hr ⊢;subst hr;exact⟨_,rfl,by rw[PE.ev_alike e (h.al.le hk)];rfl⟩
 |is l=>
  intro hk B ρ ρ' x h hr;simp only[PC.ev,aC] at hr;obtain⟨η,h1,rfl⟩:=hr;obtain⟨η',h2,h3⟩:=PI.runs_off hk h h1;exact⟨.next η',by simp only[PC.ev,h2,kW],η',rfl,h3⟩
 |seq a b bH eG=>
  intro hk B ρ ρ' x h hr;simp only[PC.ev] at hr ⊢;cases ha:a.ev Φ n ρ with
  |none=>rw[ha] at hr;cases hr
  |some y=>
   obtain⟨y',h1,h2⟩:=bH hk.of_un.1 h ha;rw[ha] at hr;rw[h1];cases y with
   |next η=>obtain⟨η',rfl,h3⟩:=h2;exact eG hk.of_un.2 h3 hr
   |exit i η=>obtain⟨η',rfl,h3⟩:=h2;cases hr;exact⟨_,rfl,η',rfl,h3⟩
   |ret d=>cases h2;cases hr;exact⟨_,rfl,rfl⟩
 |ite c lr lo a b bH eG=>
  intro hk B ρ ρ' x h hr;have hc:(c.ev ρ').b=(c.ev ρ).b:=by rw[PE.ev_alike c (h.al.le hk.of_un.1)]
  have key:∀(d:PC),(∀{ρ ρ':Env} {x:Out},Off K B ρ ρ'→d.ev Φ n ρ=some x→∃x',d.ev Φ n ρ'=some x'∧vf K B x x')→(match d.ev Φ n ρ with|some (.next η)=>some (.next (ρ.join lr lo η))|x=>x)=some x→
      ∃x',(match d.ev Φ n ρ' with|some (.next η)=>some (.next (ρ'.join lr lo η))|x=>x)=some x'∧vf K B x x':=by
   intro d ih hr;cases ha:d.ev Φ n ρ with
   |none=>rw[ha] at hr;cases hr
   |some y=>
    obtain⟨y',h1,h2⟩:=ih h ha;rw[ha] at hr;rw[h1];cases y with
    |next η=>obtain⟨η',rfl,h3⟩:=h2;cases hr;exact⟨_,rfl,_,rfl,h.join h3 lr lo⟩
    |exit i η=>obtain⟨η',rfl,h3⟩:=h2;cases hr;exact⟨_,rfl,η',rfl,h3⟩
    |ret d=>cases h2;cases hr;exact⟨_,rfl,rfl⟩
  simp only[PC.ev,hc] at hr ⊢;cases jn:(c.ev ρ).b<;>simp only[jn,cond_true,cond_false] at hr ⊢
  ·exact key b (fun h1 h2=>eG hk.of_un.2.of_un.2 h1 h2) hr
  ·exact key a (fun h1 h2=>bH hk.of_un.2.of_un.1 h1 h2) hr
 |block id lr lo a bH=>
  intro hk B ρ ρ' x h hr;simp only[PC.ev] at hr ⊢;cases ha:a.ev Φ n ρ with
  |none=>rw[ha] at hr;cases hr
  |some y=>
   obtain⟨y',h1,h2⟩:=bH hk h ha;rw[ha] at hr;rw[h1];cases y with
   |next η=>obtain⟨η',rfl,h3⟩:=h2;cases hr;exact⟨_,rfl,_,rfl,h.join h3 lr lo⟩
   |exit i η=>
    obtain⟨η',rfl,h3⟩:=h2;simp only at hr ⊢;cases hb:Nat.beq i id<;>simp only[hb,cond_true,cond_false] at hr ⊢<;>cases hr
    ·exact⟨_,rfl,η',rfl,h3⟩
    ·exact⟨_,rfl,_,rfl,h.join h3 lr lo⟩
   |ret d=>cases h2;cases hr;exact⟨_,rfl,rfl⟩
 |loop lr lo a bH=>
  intro hk B ρ ρ' x h hr;have lV:∀t,t∈lr→aU K.r t=true:=fun t ht=>hk.of_un.1.1 t (QT ht);have j6:∀t,t∈lo→t∈K.o:=fun t ht=>hk.of_un.1.2 t ht;have key:∀(m:Nat) (vr vo:List D),iX (a.ev Φ n) ρ lr lo m vr vo=some x→∃x',iX (a.ev Φ n) ρ' lr lo m vr vo=some x'∧vf K B x x':=by
   intro m
   induction m with
   |zero=>intro vr vo h;simp[iX] at h
   |succ m TK=>
    intro vr vo hr;simp only[iX] at hr ⊢;cases ha:a.ev Φ n (ρ.put lr vr lo vo) with
    |none=>rw[ha] at hr;cases hr
    |some y=>
     obtain⟨y',h1,h2⟩:=bH hk.of_un.2 (h.put lV j6 vr vo) ha;rw[ha] at hr;rw[h1];cases y with
     |next η=>obtain⟨η',rfl,h3⟩:=h2;simp only[ze h3 j6,afN h3 lV];exact TK _ _ hr
     |exit i η=>obtain⟨η',rfl,h3⟩:=h2;cases hr;exact⟨_,rfl,η',rfl,h3⟩
     |ret d=>cases h2;cases hr;exact⟨_,rfl,rfl⟩
  simp only[PC.ev] at hr ⊢;rw[ze h j6,afN h lV];exact key n _ _ hr
 |each e ps lo rt a bH=>
  intro hk B ρ ρ' x h hr;obtain⟨bD,cB⟩:=hk.of_un;obtain⟨cB,mF⟩:=cB.of_un;obtain⟨mF,Ce⟩:=mF.of_un;have j6:∀t,t∈lo→t∈K.o:=fun t ht=>mF.2 t ht;have key:∀(xs vo:List D),jh (a.ev Φ n) ρ ps lo rt xs vo=some x→∃x',jh (a.ev Φ n) ρ' ps lo rt xs vo=some x'∧vf K B x x':=by
   intro xs
   induction xs with
   |nil=>intro vo hr;simp only[jh,bj] at hr ⊢;subst hr;exact⟨_,rfl,_,rfl,h.put (fun _ h=>by cases h) j6 _ _⟩
   |cons y xs jI=>
    intro vo hr;simp only[jh] at hr ⊢;cases ha:a.ev Φ n (ρ.put ps (partsOf ps y) lo vo) with
    |none=>rw[ha] at hr;cases hr
    |some z=>
     have iS:Off K (ρ'.put ps (partsOf ps y) lo vo) (ρ.put ps (partsOf ps y) lo vo) (ρ'.put ps (partsOf ps y) lo vo):=⟨h.al.put ps lo _ _,fun _ _=>rfl,fun _ _=>rfl⟩
     obtain⟨z',h1,h2⟩:=bH Ce iS ha;rw[ha] at hr;rw[h1];cases z with
     |next η=>obtain⟨η',rfl,h3⟩:=h2;simp only[ze h3 j6];exact jI _ hr
     |exit i η=>
      obtain⟨η',rfl,h3⟩:=h2;simp only[ze h3 j6] at hr ⊢;have hp:=h.put (lr:=[]) (fun _ h=>by cases h) j6 [] (lo.map η.o);cases hb:Nat.beq i cR<;>simp only[hb,cond_true,cond_false] at hr ⊢
      ·cases hr;exact⟨_,rfl,_,rfl,hp⟩
      ·cases rt with
       |none=>cases hr
       |some e2=>cases hr;exact⟨_,rfl,by show Out.ret _=Out.ret _;rw[PE.ev_alike e2 (hp.al.le cB)]⟩
     |ret d=>cases hr
  simp only[PC.ev] at hr ⊢;rw[PE.ev_alike e (h.al.le bD),ze h j6];exact key _ _ hr
 |meach J ps dj lo a bH=>
  intro hk B ρ ρ' x h hr;obtain⟨mF,Ce⟩:=hk.of_un;have j6:∀t,t∈lo→t∈K.o:=fun t ht=>mF.2 t (fy _ ht);have hJ:ρ'.o J=ρ.o J:=h.al.o J (mF.2 J (fK ..));have key:∀(es:D) (xs done vo tB:List D),pJ (a.ev Φ n) ρ J es ps dj lo xs done vo=some tB→pJ (a.ev Φ n) ρ' J es ps dj lo xs done vo=some tB:=by
   intro es xs
   induction xs with
   |nil=>intro done vo tB h;exact h
   |cons y xs jI=>
    intro done vo tB hr;simp only[pJ] at hr ⊢;cases ha:a.ev Φ n ((ρ.put ps (dj.map y.tget) lo vo).setO J (.tup [.list (done++[y]),es])) with
    |none=>rw[ha] at hr;cases hr
    |some z=>
     have iS:Off K ((ρ'.put ps (dj.map y.tget) lo vo).setO J (.tup [.list (done++[y]),es])) ((ρ.put ps (dj.map y.tget) lo vo).setO J (.tup [.list (done++[y]),es])) ((ρ'.put ps (dj.map y.tget) lo vo).setO J (.tup [.list (done++[y]),es])):=
          ⟨(h.al.put ps lo _ _).setO J _,fun _ _=>rfl,fun _ _=>rfl⟩
     obtain⟨z',h1,h2⟩:=bH Ce iS ha;rw[ha] at hr;rw[h1];cases z with
     |next η=>obtain⟨η',rfl,h3⟩:=h2;simp only[ze h3 j6];exact jI _ _ _ hr
     |exit i η=>cases hr
     |ret d=>cases hr
  simp only[PC.ev,CU] at hr;obtain⟨vo,⟨h1,h2⟩,rfl⟩:=hr;refine⟨.next (ρ'.put [] [] lo vo),?_,_,rfl,h.put (fun _ h=>by cases h) j6 _ _⟩;simp only[PC.ev,CU];refine⟨vo,⟨by rw[hJ];exact h1,fun ys hy=>?_⟩,rfl⟩;rw[hJ] at hy ⊢;rw[ze h j6];exact key _ _ _ _ _ (h2 ys hy)
def oW:List Nat→PC→Bool
 |l,.exit id=>fR l id
 |l,.seq a b=>oW l a&&oW l b
 |l,.ite _ _ _ a b=>oW l a&&oW l b
 |l,.block id _ _ a=>oW (id::l) a
 |l,.loop _ _ a=>oW l a
 |l,.each _ _ _ _ a=>oW (cR::l) a
 |_,_=>true
theorem aow {Φ:aW}{n:Nat}:∀(c:PC) {l:List Nat},oW l c=true→∀{ρ:Env} {i:Nat} {η:Env},c.ev Φ n ρ=some (.exit i η)→i∈l:=by
 intro c
 induction c with
 |skip=>intro l _ ρ i η h;simp[PC.ev] at h
 |exit id=>intro l hl ρ i η h;simp only[PC.ev,bj] at h;injection h with h1 h2;subst h1;exact(sU _ _).1 hl
 |ret e=>intro l _ ρ i η h;simp[PC.ev] at h
 |is _=>intro l _ ρ i η h;simp[PC.ev] at h
 |seq a b bH eG=>
  intro l hl ρ i η h;simp only[oW,aw] at hl;simp only[PC.ev] at h;split at h
  ·exact eG hl.2 h
  ·exact bH hl.1 h
 |ite c lr lo a b bH eG=>
  intro l hl ρ i η h;simp only[oW,aw] at hl;simp only[PC.ev] at h;cases hc:(c.ev ρ).b<;>simp only[hc,cond_true,cond_false] at h
  ·split at h
   ·cases h
   ·exact eG hl.2 h
  ·split at h
   ·cases h
   ·exact bH hl.1 h
 |block id lr lo a bH=>
  intro l hl ρ i η h;simp only[PC.ev] at h;split at h
  ·cases h
  ·rename_i bS ρ2 ha;cases hb:Nat.beq bS id<;>simp only[hb,cond_true,cond_false] at h<;>cases h;rcases cC.1 (bH hl ha) with e|e
   ·subst e;rw[lP] at hb;cases hb
   ·exact e
  ·rename_i h1 h2;exact absurd h (h2 _ _)
 |loop lr lo a bH=>
  intro l hl ρ i η h;have key:∀(m:Nat) (vr vo:List D),iX (a.ev Φ n) ρ lr lo m vr vo=some (.exit i η)→i∈l:=by
   intro m
   induction m with
   |zero=>intro vr vo h;simp[iX] at h
   |succ m TK=>
    intro vr vo h;simp only[iX] at h;split at h
    ·exact TK _ _ h
    ·exact bH hl h
  exact key _ _ _ h
 |each e ps lo rt a bH=>
  intro l hl ρ i η h;have key:∀(xs vo:List D),jh (a.ev Φ n) ρ ps lo rt xs vo=some (.exit i η)→i∈l:=by
   intro xs
   induction xs with
   |nil=>intro vo h;simp[jh] at h
   |cons x xs jI=>
    intro vo h;simp only[jh] at h;split at h
    ·exact jI _ h
    ·rename_i bS ρ2 ha;cases hb:Nat.beq bS cR<;>simp only[hb,cond_true,cond_false] at h
     ·injection h with h;injection h with h1 h2;subst h1
      rcases cC.1 (bH hl ha) with e|e
      ·subst e;rw[lP] at hb;cases hb
      ·exact e
     ·cases rt<;>simp at h
    ·cases h
  exact key _ _ h
 |meach J ps dj lo a _=>
  intro l _ ρ i η h;simp only[PC.ev,CU] at h;obtain⟨vo,_,h⟩:=h;cases h
def ae2 (t:Nat):PE→Bool
 |.r u=>Nat.beq u t
 |_=>false
def ae3 (t:Nat):PE→Bool
 |.o u=>Nat.beq u t
 |_=>false
def fk (px:Nat→PE→Bool)(p:Nat→Bool):List Nat→List (Nat×PE)→List (Nat×PE)
 |_,[]=>[]
 |seen,x::l=>bif p x.1&& !fR seen x.1 then(bif px x.1 x.2 then fk px p (x.1::seen) l else x::fk px p (x.1::seen) l) else fk px p seen l
theorem Lf {px:Nat→PE→Bool}{p:Nat→Bool}:∀{l:List (Nat×PE)} {seen:List Nat} {t:Nat},fR seen t=true→bL (fk px p seen l) t=none
 |[],_,_,_=>rfl
 |x::l,seen,t,h=>by
  have h':fR (x.1::seen) t=true:=by rw[sU] at h ⊢;exact fy _ h
  simp only[fk];cases hb:(p x.1&& !fR seen x.1) with
  |false=>exact Lf h
  |true=>
   simp only[cond_true];cases px x.1 x.2 with
   |true=>exact Lf h'
   |false=>
    simp only[cond_false,bL];have:Nat.beq x.1 t=false:=by
      cases e:Nat.beq x.1 t with
      |false=>rfl
      |true=>rw[dA e,h] at hb;simp at hb
    rw[this];exact Lf h'
theorem E7 {px:Nat→PE→Bool}{p:Nat→Bool}{dflt:Nat→PE}(cL:∀t e,px t e=true→e=dflt t):∀{l:List (Nat×PE)} {seen:List Nat} {t:Nat},p t=true→fR seen t=false→
 (match bL (fk px p seen l) t with|some e=>e|none=>dflt t)=(match bL l t with|some e=>e|none=>dflt t)
 |[],_,_,_,_=>rfl
 |x::l,seen,t,hp,hs=>by
  simp only[fk,bL];cases e:Nat.beq x.1 t with
  |true=>
   have e':=dA e;rw[e',hp,hs];simp only[Bool.not_false,Bool.and_self,cond_true];cases hi:px t x.2 with
   |true=>simp only[cond_true];rw[Lf (by rw[sU];exact fK ..)];exact(cL _ _ hi).symm
   |false=>simp only[cond_false,bL,e,cond_true]
  |false=>
   simp only[cond_false];cases hb:(p x.1&& !fR seen x.1) with
   |false=>exact E7 cL hp hs
   |true=>
    have dZ:fR (x.1::seen) t=false:=by
      cases hm:fR (x.1::seen) t with
      |false=>rfl
      |true=>
       rcases cC.1 ((sU _ _).1 hm) with h|h
       ·rw[h,lP] at e;cases e
       ·rw[(sU _ _).2 h] at hs;cases hs
    simp only[cond_true];cases px x.1 x.2 with
    |true=>exact E7 cL hp dZ
    |false=>simp only[cond_false,bL,e];exact E7 cL hp dZ
def SE.cut (s:SE)(k:Lk):SE:=⟨fk ae2 (aU k.r) [] s.r,fk ae3 (fR k.o) [] s.o⟩
def TZ (l:List (Nat×PE)):Lk:=l.foldr (fun x k=>x.2.lk.un k) .none
def SE.lks (s:SE):Lk:=(TZ s.r).un (TZ s.o)
theorem T2:∀{l:List (Nat×PE)} {t:Nat} {e:PE},bL l t=some e→e.lk.Le (TZ l)
 |[],_,_,h=>by cases h
 |x::l,t,e,h=>by
  simp only[bL] at h;cases hb:Nat.beq x.1 t<;>simp only[hb,cond_true,cond_false] at h
  ·exact(T2 h).trans (Lk.le_r _ _)
  ·cases h;exact Lk.le_l _ _
theorem SE.cut_al {s:SE}{L:Lk}{ρ1 ρ2:Env}(h:Alike (L.un (s.cut L).lks) ρ1 ρ2):Alike L ((s.cut L).ev ρ1) (s.ev ρ2):=by
 have hL:=h.le (Lk.le_l _ _);have hs:=h.le (Lk.le_r _ _);constructor
 ·intro t ht;show(s.getR t).ev ρ2=((s.cut L).getR t).ev ρ1;have e:(s.cut L).getR t=s.getR t:=E7 (dflt:=.r) (fun t e he=>by unfold ae2 at he;split at he;rw[dA he];cases he) ht rfl;rw[←e];cases hl:bL (s.cut L).r t with
  |none=>have:(s.cut L).getR t=.r t:=by unfold SE.getR;rw[hl]
         rw[this];exact hL.r t ht
  |some x=>have:(s.cut L).getR t=x:=by unfold SE.getR;rw[hl]
           rw[this];exact PE.ev_alike x (hs.le ((T2 hl).trans (Lk.le_l _ _)))
 ·intro t ht;show(s.getO t).ev ρ2=((s.cut L).getO t).ev ρ1;have e:(s.cut L).getO t=s.getO t:=E7 (dflt:=.o) (fun t e he=>by unfold ae3 at he;split at he;rw[dA he];cases he) ((sU _ _).2 ht) rfl;rw[←e];cases hl:bL (s.cut L).o t with
  |none=>have:(s.cut L).getO t=.o t:=by unfold SE.getO;rw[hl]
         rw[this];exact hL.o t ht
  |some x=>have:(s.cut L).getO t=x:=by unfold SE.getO;rw[hl]
           rw[this];exact PE.ev_alike x (hs.le ((T2 hl).trans (Lk.le_r _ _)))
structure LC where
 next:Lk
 ov:List (Nat×Lk)
def LC.all (c:LC):Lk:=c.ov.foldr (fun x k=>x.2.un k) .none
def PX (c:LC)(Q1 Q2:Out→Prop):Prop:=
 (∀ρ1 ρ2,Alike c.next ρ1 ρ2→Q1 (.next ρ1)→Q2 (.next ρ2))∧(∀id k ρ1 ρ2,bL c.ov id=some k→Alike k ρ1 ρ2→Q1 (.exit id ρ1)→Q2 (.exit id ρ2))∧∀d,Q1 (.ret d)→Q2 (.ret d)
def fS:LC→PT→Option (PT×Lk)
 |c,.next s=>some (.next (s.cut c.next),c.next.un (s.cut c.next).lks)
 |c,.exit id s=>(bL c.ov id).map fun k=>(.exit id (s.cut k),k.un (s.cut k).lks)
 |_,.ret e=>some (.ret e,e.lk)
 |c,.chk e k=>(fS c k).map fun r=>(.chk e r.1,e.lk.un r.2)
 |c,.ite e a b=>(fS c a).bind fun x=>(fS c b).map fun y=>(.ite e x.1 y.1,e.lk.un (x.2.un y.2))
 |c,.call s gs dst f args k=>(fS c k).map fun r=>(.call (s.cut (r.2.un (mB gs))) gs dst f args r.1,(PE.lks args).un ((r.2.un (mB gs)).un (s.cut (r.2.un (mB gs))).lks))
 |c,.callc s gs dst e args k=>(fS c k).map fun r=>(.callc (s.cut (r.2.un (mB gs))) gs dst e args r.1,(e.lk.un (PE.lks args)).un ((r.2.un (mB gs)).un (s.cut (r.2.un (mB gs))).lks))
 |c,.mcall s j f args k=>(fS c k).map fun r=>(.mcall (s.cut r.2) j f args r.1,(PE.lks args).un (r.2.un (s.cut r.2).lks))
 |c,.iteS s e lr lo a b k=>(fS c k).bind fun r=>(fS ⟨r.2,c.ov⟩ a).bind fun x=>(fS ⟨r.2,c.ov⟩ b).map fun y=>
    (.iteS (s.cut (r.2.un (x.2.un y.2))) e lr lo x.1 y.1 r.1,e.lk.un ((r.2.un (x.2.un y.2)).un (s.cut (r.2.un (x.2.un y.2))).lks))
 |c,.blockS s id lr lo a k=>(fS c k).bind fun r=>(fS ⟨r.2,(id,r.2)::c.ov⟩ a).map fun x=>(.blockS (s.cut (r.2.un x.2)) id lr lo x.1 r.1,(r.2.un x.2).un (s.cut (r.2.un x.2)).lks)
 |c,.brk s p k=>(fS c k).bind fun r=>bif oW (c.ov.map (·.1)) p then some (.brk (s.cut (p.lk.un (r.2.un c.all))) p r.1,(p.lk.un (r.2.un c.all)).un (s.cut (p.lk.un (r.2.un c.all))).lks) else none
theorem LC.all_le:∀{l:List (Nat×Lk)} {id:Nat} {k:Lk},bL l id=some k→k.Le (l.foldr (fun x k=>x.2.un k) .none)
 |[],_,_,h=>by cases h
 |x::l,t,e,h=>by
  simp only[bL] at h;cases hb:Nat.beq x.1 t<;>simp only[hb,cond_true,cond_false] at h
  ·exact(LC.all_le h).trans (Lk.le_r _ _)
  ·cases h;exact Lk.le_l _ _
theorem aft:∀{l:List (Nat×Lk)} {id:Nat},id∈l.map (·.1)→∃k,bL l id=some k
 |[],_,h=>by cases h
 |x::l,id,h=>by
  simp only[bL];cases hb:Nat.beq x.1 id with
  |true=>exact⟨_,rfl⟩
  |false=>
   simp only[cond_false];rcases cC.1 h with e|h
   ·rw[e,lP] at hb;cases hb
   ·exact aft h
theorem awU {T:cG}:∀(t:PT) {c:LC} {t':PT} {L:Lk},fS c t=some (t',L)→∀{Q1 Q2:Out→Prop} {ρ1 ρ2:Env},PX c Q1 Q2→Alike L ρ1 ρ2→aH T t' ρ1 Q1→aH T t ρ2 Q2:=by
 intro t
 induction t with
 |next s=>
  intro c t' L hp Q1 Q2 ρ1 ρ2 hQ hA h;simp only[fS,bj,oN] at hp;obtain⟨rfl,rfl⟩:=hp;exact hQ.1 _ _ (SE.cut_al hA) h
 |exit id s=>
  intro c t' L hp Q1 Q2 ρ1 ρ2 hQ hA h;simp only[fS,aC,oN] at hp;obtain⟨k,hk,rfl,rfl⟩:=hp;exact hQ.2.1 _ k _ _ hk (SE.cut_al hA) h
 |ret e=>
  intro c t' L hp Q1 Q2 ρ1 ρ2 hQ hA h;simp only[fS,bj,oN] at hp;obtain⟨rfl,rfl⟩:=hp;show Q2 (.ret (e.ev ρ2));rw[PE.ev_alike e hA];exact hQ.2.2 _ h
 |chk e k ih=>
  intro c t' L hp Q1 Q2 ρ1 ρ2 hQ hA h;simp only[fS,aC,oN] at hp;obtain⟨r,hr,rfl,rfl⟩:=hp;exact⟨by rw[PE.ev_alike e (hA.le (Lk.le_l _ _))];exact h.1,ih hr hQ (hA.le (Lk.le_r _ _)) h.2⟩
 |ite e a b bH eG=>
  intro c t' L hp Q1 Q2 ρ1 ρ2 hQ hA h;simp only[fS,aA,aC,oN] at hp;obtain⟨x,hx,y,hy,rfl,rfl⟩:=hp;have h2:=hA.le (Lk.le_r _ _);simp only[aH] at h ⊢;rw[PE.ev_alike e (hA.le (Lk.le_l _ _))];split
  ·rename_i hc;rw[if_pos hc] at h;exact bH hx hQ (h2.le (Lk.le_l _ _)) h
  ·rename_i hc;rw[if_neg hc] at h;exact eG hy hQ (h2.le (Lk.le_r _ _)) h
 |call s gs dst f args k ih=>
  intro c t' L hp Q1 Q2 ρ1 ρ2 hQ hA h;simp only[fS,aC,oN] at hp;obtain⟨r,hr,rfl,rfl⟩:=hp;have hS:=SE.cut_al (hA.le (Lk.le_r _ _));simp only[aH] at h ⊢;rw[PE.evs_alike args (hA.le (Lk.le_l _ _)),Ci (hS.le (Lk.le_r _ _))];split
  ·rename_i hc;rw[if_pos hc] at h;obtain⟨d,hd,h⟩:=h;exact⟨d,hd,ih hr hQ ((hS.le (Lk.le_l _ _)).setR dst d) h⟩
  ·rename_i hc;rw[if_neg hc] at h;exact ih hr hQ (hS.le (Lk.le_l _ _)) h
 |callc s gs dst e args k ih=>
  intro c t' L hp Q1 Q2 ρ1 ρ2 hQ hA h;simp only[fS,aC,oN] at hp;obtain⟨r,hr,rfl,rfl⟩:=hp;have hS:=SE.cut_al (hA.le (Lk.le_r _ _));have hE:=hA.le (Lk.le_l _ _);simp only[aH] at h ⊢;rw[PE.ev_alike e (hE.le (Lk.le_l _ _)),PE.evs_alike args (hE.le (Lk.le_r _ _)),Ci (hS.le (Lk.le_r _ _))];split
  ·rename_i hc;rw[if_pos hc] at h;obtain⟨f,caps,d,he,hd,h⟩:=h;exact⟨f,caps,d,he,hd,ih hr hQ ((hS.le (Lk.le_l _ _)).setR dst d) h⟩
  ·rename_i hc;rw[if_neg hc] at h;exact ih hr hQ (hS.le (Lk.le_l _ _)) h
 |mcall s j f args k ih=>
  intro c t' L hp Q1 Q2 ρ1 ρ2 hQ hA h;simp only[fS,aC,oN] at hp;obtain⟨r,hr,rfl,rfl⟩:=hp;have hS:=SE.cut_al (hA.le (Lk.le_r _ _));simp only[aH] at h ⊢;rw[PE.evs_alike args (hA.le (Lk.le_l _ _))];obtain⟨d,hd,h⟩:=h;exact⟨d,hd,ih hr hQ (hS.setO j d) h⟩
 |iteS s e lr lo a b k bH eG kI=>
  intro c t' L hp Q1 Q2 ρ1 ρ2 hQ hA h;simp only[fS,aA,aC,oN] at hp;obtain⟨r,hr,x,hx,y,hy,rfl,rfl⟩:=hp;have hS:=SE.cut_al (hA.le (Lk.le_r _ _));have Lw:=hS.le (Lk.le_l _ _);have Fj:=hS.le ((Lk.le_l _ _).trans (Lk.le_r _ _));have hSy:=hS.le ((Lk.le_r _ _).trans (Lk.le_r _ _))
  have rel:PX ⟨r.2,c.ov⟩ (lx ((s.cut (r.2.un (x.2.un y.2))).ev ρ1) lr lo (gC (fun ρ'=>aH T r.1 ρ' Q1) Q1)) (lx (s.ev ρ2) lr lo (gC (fun ρ'=>aH T k ρ' Q2) Q2)):=
   ⟨fun η1 η2 ha hq=>kI hr hQ (Lw.join ha lr lo) hq,fun id k' η1 η2 hk ha hq=>hQ.2.1 id k' _ _ hk ha hq,fun d hq=>hQ.2.2 d hq⟩
  simp only[aH] at h ⊢;rw[PE.ev_alike e (hA.le (Lk.le_l _ _))];split
  ·rename_i hc;rw[if_pos hc] at h;exact bH hx rel Fj h
  ·rename_i hc;rw[if_neg hc] at h;exact eG hy rel hSy h
 |blockS s id lr lo a k bH kI=>
  intro c t' L hp Q1 Q2 ρ1 ρ2 hQ hA h;simp only[fS,aA,aC,oN] at hp;obtain⟨r,hr,x,hx,rfl,rfl⟩:=hp;have hS:=SE.cut_al hA;have Lw:=hS.le (Lk.le_l _ _);refine bH hx (Q1:=mw ((s.cut (r.2.un x.2)).ev ρ1) id lr lo (gC (fun ρ'=>aH T r.1 ρ' Q1) Q1)) ⟨fun η1 η2 ha hq=>kI hr hQ (Lw.join ha lr lo) hq,fun bS k' η1 η2 hk ha hq=>?_,fun d hq=>hQ.2.2 d hq⟩ (hS.le (Lk.le_r _ _)) h;simp only[mw] at hq ⊢;simp only[bL] at hk;by_cases e:bS=id
  ·subst e;simp only[lP,cond_true,bj] at hk;subst hk;rw[if_pos rfl] at hq ⊢;exact kI hr hQ (Lw.join ha lr lo) hq
  ·rw[if_neg e] at hq ⊢;rw[ga (fun h=>e h.symm),cond_false] at hk;exact hQ.2.1 bS k' _ _ hk ha hq
 |brk s p k kI=>
  intro c t' L hp Q1 Q2 ρ1 ρ2 hQ hA h;simp only[fS,aA] at hp;obtain⟨r,hr,hp⟩:=hp;cases hx:oW (c.ov.map (·.1)) p<;>simp only[hx,cond_true,cond_false,bj,oN] at hp
  ·cases hp
  obtain⟨rfl,rfl⟩:=hp;have hS:=SE.cut_al hA;have iS:Off (p.lk.un (r.2.un c.all)) (s.ev ρ2) ((s.cut (p.lk.un (r.2.un c.all))).ev ρ1) (s.ev ρ2):=⟨hS,fun _ _=>rfl,fun _ _=>rfl⟩
  obtain⟨x,hq,n0,hn⟩:=h;have step:=fun n (hle:n0≤n)=>PC.ev_off p (Lk.le_l _ _) iS (hn n hle);obtain⟨x',h1,h2⟩:=step n0 (bn _);refine⟨x',?_,n0,fun n hle=>?_⟩
  ·cases x with
   |next η=>obtain⟨η',rfl,h3⟩:=h2;exact kI hr hQ (h3.al.le ((Lk.le_l _ _).trans (Lk.le_r _ _))) hq
   |exit i η=>
    obtain⟨η',rfl,h3⟩:=h2;obtain⟨k',bp⟩:=aft (aow p hx (hn n0 (bn _)));exact hQ.2.1 i k' _ _ bp (h3.al.le ((LC.all_le bp).trans ((Lk.le_r _ _).trans (Lk.le_r _ _)))) hq
   |ret d=>cases h2;exact hQ.2.2 d hq
  ·obtain⟨x2,h3,h4⟩:=step n hle;rw[h3,h2.uniq h4]
def GK (c:LC)(t:PT):PT:=match fS c t with|some r=>r.1|none=>t
theorem Nj {T:cG}{c:LC}{t:PT}{Q:Out→Prop}{ρ:Env}(hQ:PX c Q Q)(h:aH T (GK c t) ρ Q):aH T t ρ Q:=by
 unfold GK at h;split at h
 ·rename_i r hr;exact awU t hr hQ ⟨fun _ _=>rfl,fun _ _=>rfl⟩ h
 ·exact h
def akj (c:PC):PT:=sx c [] .id (fun _ s=>.next s) (fun _ id s=>.exit id s)
theorem akk {T:cG}{c:PC}{ρ:Env}{Q:Out→Prop}(h:aH T (akj c) ρ Q):aK T c ρ Q:=
 OX (s:=.id) c (bV.ok_nil _) h (fun ρ' ae s _ _ h=>h) (fun ρ' ae id s _ _ h=>h) (fun _ _ _ h=>h) (fun _ h=>h)
def tree (c:PC):PT:=GK ⟨.none,[]⟩ (akj c)
theorem Pj {T:cG}{c:PC}{ρ:Env}{d:D}(h:aH T (tree c) ρ fun x=>x=.ret d):aK T c ρ fun x=>x=.ret d:=
 akk (Nj ⟨fun _ _ _ h=>(by cases h),fun _ _ _ _ _ _ h=>(by cases h),fun _ h=>h⟩ h)
def SE.keep (s:SE)(lr lo:List Nat):SE:=⟨lr.map fun t=>(t,s.getR t),lo.map fun t=>(t,s.getO t)⟩
theorem SE.keep_r (s:SE)(lr lo:List Nat)(ρ:Env):lr.map ((s.keep lr lo).ev ρ).r=lr.map (s.ev ρ).r:=by
 apply tL;intro t ht;show((s.keep lr lo).getR t).ev ρ=(s.getR t).ev ρ;have:=zb (f:=fun t=>s.getR t) (l:=[]) (u:=t) lr;rw[tK,if_pos ht] at this;have e:(s.keep lr lo).getR t=s.getR t:=by unfold SE.getR SE.keep;simp only[];rw[this];rfl
 rw[e]
theorem SE.keep_o (s:SE)(lr lo:List Nat)(ρ:Env):lo.map ((s.keep lr lo).ev ρ).o=lo.map (s.ev ρ).o:=by
 apply tL;intro t ht;show((s.keep lr lo).getO t).ev ρ=(s.getO t).ev ρ;have:=zb (f:=fun t=>s.getO t) (l:=[]) (u:=t) lo;rw[tK,if_pos ht] at this;have e:(s.keep lr lo).getO t=s.getO t:=by unfold SE.getO SE.keep;simp only[];rw[this];rfl
 rw[e]
def ajG (id:Nat)(bF bE lr lo:List Nat)(a:PC):PT:=
 sx a [] .id (fun _ s=>.next (s.keep lr lo)) (fun _ bS s=>bif Nat.beq bS id then .exit id (s.keep bF bE) else .exit bS s)
def fo (ρ:Env)(id:Nat)(bF bE lr lo:List Nat)(K:List D→List D→Prop)(Q:Out→Prop):Out→Prop
 |.next ρ'=>K (lr.map ρ'.r) (lo.map ρ'.o)
 |.exit bS ρ'=>if bS=id then Q (.next (ρ.put bF (bF.map ρ'.r) bE (bE.map ρ'.o))) else Q (.exit bS ρ')
 |.ret d=>Q (.ret d)
def round (id:Nat)(bF bE lr lo:List Nat)(a:PC):PT:=GK ⟨⟨bits lr,lo⟩,[(id,⟨bits bF,bE⟩)]⟩ (ajG id bF bE lr lo a)
theorem afM {k:Lk}{lr:List Nat}{ρ1 ρ2:Env}(h:Alike k ρ1 ρ2)(hk:∀t,t∈lr→aU k.r t=true):lr.map ρ2.r=lr.map ρ1.r:=tL fun t ht=>h.r t (hk t ht)
theorem Mx {k:Lk}{lo:List Nat}{ρ1 ρ2:Env}(h:Alike k ρ1 ρ2)(hk:∀t,t∈lo→t∈k.o):lo.map ρ2.o=lo.map ρ1.o:=tL fun t ht=>h.o t (hk t ht)
theorem ax0 {T:cG}{id:Nat}{bF bE lr lo:List Nat}{a:PC}{ρ ρ0:Env}{K:List D→List D→Prop}{Q:Out→Prop}(h:aH T (round id bF bE lr lo a) ρ (fo ρ0 id bF bE lr lo K Q)):aH T (ajG id bF bE lr lo a) ρ (fo ρ0 id bF bE lr lo K Q):=by
 refine Nj ⟨fun ρ1 ρ2 ha hq=>?_,fun bS k ρ1 ρ2 hk ha hq=>?_,fun d hq=>hq⟩ h
 ·simp only[fo] at hq ⊢;rw[afM ha fun t ht=>QT ht,Mx ha fun t ht=>ht];exact hq
 ·simp only[bL] at hk;cases hb:Nat.beq id bS<;>simp only[hb,cond_true,cond_false] at hk
  ·cases hk
  ·cases hk;have:=dA hb;subst this;simp only[fo,if_true] at hq ⊢;rw[afM ha fun t ht=>QT ht,Mx ha fun t ht=>ht];exact hq
theorem aK.forLoop {T:cG}{id:Nat}{bF bE lr lo:List Nat}{a:PC}{ρ:Env}{Q:Out→Prop}{α:Type}(inv:α→List D→List D→Prop)(wy:α→Nat)(s0:α)(h0:inv s0 (lr.map ρ.r) (lo.map ρ.o))
 (step:∀s vr vo,inv s vr vo→aH T (round id bF bE lr lo a) (ρ.put lr vr lo vo) (fo ρ id bF bE lr lo (fun vr vo=>∃s',wy s'<wy s∧inv s' vr vo) Q)):aK T (.block id bF bE (.loop lr lo a)) ρ Q:=by
 refine .block (.loop inv wy s0 h0 fun s vr vo hi=>?_);have h:=ax0 (step s vr vo hi);refine OX (s:=.id) a (bV.ok_nil _) h (fun ρ' ae s' _ _ h=>?_) (fun ρ' ae bS s' _ _ h=>?_) (fun _ bS ρ' h=>?_) (fun d h=>h)
 ·simp only[aH,fo] at h;rw[SE.keep_r,SE.keep_o] at h;exact h
 ·simp only[gC,mw];by_cases cL:bS=id
  ·subst cL;simp only[lP,cond_true,aH,fo,if_true] at h;rw[SE.keep_r,SE.keep_o] at h;rw[if_pos rfl];exact h
  ·rw[ga cL,cond_false] at h;simp only[aH,fo] at h;rw[if_neg cL] at h ⊢;exact h
 ·simp only[gC,mw];simp only[fo] at h;split
  ·rename_i e;rw[if_pos e] at h;exact h
  ·rename_i e;rw[if_neg e] at h;exact h
def ajH (lo:List Nat)(a:PC):PT:=sx a [] .id (fun _ s=>.next (s.keep [] lo)) (fun _ id s=>.exit id (s.keep [] lo))
def rG (lo:List Nat)(a:PC):PT:=GK ⟨⟨0,lo⟩,[(cR,⟨0,lo⟩)]⟩ (ajH lo a)
theorem ajI {T:cG}{lo:List Nat}{a:PC}{ρ:Env}{Q:Out→Prop}(hn:∀ρ1 ρ2,lo.map ρ2.o=lo.map ρ1.o→Q (.next ρ1)→Q (.next ρ2))(hx:∀ρ1 ρ2,lo.map ρ2.o=lo.map ρ1.o→Q (.exit cR ρ1)→Q (.exit cR ρ2))(h:aH T (rG lo a) ρ Q):aH T (ajH lo a) ρ Q:=by
 refine Nj ⟨fun ρ1 ρ2 ha hq=>hn ρ1 ρ2 (Mx ha fun t ht=>ht) hq,fun bS k ρ1 ρ2 hk ha hq=>?_,fun d hq=>hq⟩ h;simp only[bL] at hk;cases hb:Nat.beq cR bS<;>simp only[hb,cond_true,cond_false] at hk
 ·cases hk
 ·cases hk;have:=dA hb;subst this;exact hx ρ1 ρ2 (Mx ha fun t ht=>ht) hq
theorem aK.eachR {T:cG}{e:PE}{ps lo:List Nat}{rt:Option PE}{a:PC}{ρ:Env}{Q:Out→Prop}(xs:List D)(he:(e.ev ρ).l=xs)(inv:Nat→List D→Prop)(h0:inv 0 (lo.map ρ.o))
 (step:∀k x vo,xs[k]?=some x→inv k vo→aH T (rG lo a) (ρ.put ps (partsOf ps x) lo vo) (vt ρ lo rt (inv (k+1)) Q)) (done:∀vo,inv xs.length vo→Q (.next (ρ.put [] [] lo vo))):aK T (.each e ps lo rt a) ρ Q:=by
 refine .each xs he inv h0 (fun k x vo hx hi=>?_) done;have h:=ajI (fun ρ1 ρ2 e hq=>by simp only[vt] at hq ⊢;rw[e];exact hq) (fun ρ1 ρ2 e hq=>by simp only[vt,if_true] at hq ⊢;rw[e];exact hq) (step k x vo hx hi);refine OX (s:=.id) a (bV.ok_nil _) h (fun ρ' ae s' _ _ h=>?_) (fun ρ' ae bS s' _ _ h=>?_) (fun _ bS ρ' h=>h) (fun d h=>h)
 ·simp only[aH,vt] at h;rw[SE.keep_o] at h;exact h
 ·simp only[aH,vt] at h;rw[SE.keep_o] at h;exact h
theorem aK.meachR {T:cG}{J:Nat}{ps dj lo:List Nat}{a:PC}{ρ:Env}{Q:Out→Prop}(es:List (D×D))(he:ρ.o J=.tup [.list [],.map es])(inv:List D→List D→Prop)(h0:inv [] (lo.map ρ.o))
 (step:∀done x rest vo,(done++x::rest).Perm (iY (.map es))→inv done vo→aH T (rG lo a) ((ρ.put ps (dj.map x.tget) lo vo).setO J (.tup [.list (done++[x]),.map es])) (fun y=>∃ρ',y=.next ρ'∧inv (done++[x]) (lo.map ρ'.o)))
 (last:∃vo,(∀done,done.Perm (iY (.map es))→∀tB,inv done tB→tB=vo)∧Q (.next (ρ.put [] [] lo vo))):aK T (.meach J ps dj lo a) ρ Q:=by
 refine .meach es he inv h0 (fun done x rest vo hp hi=>?_) last;have h:=ajI (fun ρ1 ρ2 e ⟨ρ',e1,hq⟩=>by cases e1;exact⟨_,rfl,by rw[e];exact hq⟩) (fun ρ1 ρ2 e ⟨ρ',e1,hq⟩=>by cases e1) (step done x rest vo hp hi);refine OX (s:=.id) a (bV.ok_nil _) h (fun ρ' ae s' _ _ h=>?_) (fun ρ' ae bS s' _ _ h=>?_) (fun _ bS ρ' h=>?_) (fun d h=>?_)
 ·simp only[aH] at h;obtain⟨ρ2,e,h⟩:=h;injection e with e;subst e;rw[SE.keep_o] at h;exact⟨_,rfl,h⟩
 ·simp only[aH] at h;obtain⟨ρ2,e,h⟩:=h;cases e
 ·obtain⟨ρ2,e,_⟩:=h;cases e
 ·obtain⟨ρ2,e,_⟩:=h;cases e
theorem Av {T:cG}:∀(t:PT) {ρ:Env} {Q Q':Out→Prop},(∀x,Q x→Q' x)→aH T t ρ Q→aH T t ρ Q':=by
 intro t
 induction t with
 |next s=>intro ρ Q Q' h hx;exact h _ hx
 |exit id s=>intro ρ Q Q' h hx;exact h _ hx
 |ret e=>intro ρ Q Q' h hx;exact h _ hx
 |chk e k ih=>intro ρ Q Q' h hx;exact⟨hx.1,ih h hx.2⟩
 |ite c a b bH eG=>
  intro ρ Q Q' h hx;simp only[aH] at hx ⊢;split
  ·rename_i hc;rw[if_pos hc] at hx;exact bH h hx
  ·rename_i hc;rw[if_neg hc] at hx;exact eG h hx
 |call s gs dst f args k ih=>
  intro ρ Q Q' h hx;simp only[aH] at hx ⊢;split
  ·rename_i hc;rw[if_pos hc] at hx;obtain⟨d,hd,hx⟩:=hx;exact⟨d,hd,ih h hx⟩
  ·rename_i hc;rw[if_neg hc] at hx;exact ih h hx
 |callc s gs dst e args k ih=>
  intro ρ Q Q' h hx;simp only[aH] at hx ⊢;split
  ·rename_i hc;rw[if_pos hc] at hx;obtain⟨f,c,d,he,hd,hx⟩:=hx;exact⟨f,c,d,he,hd,ih h hx⟩
  ·rename_i hc;rw[if_neg hc] at hx;exact ih h hx
 |mcall s j f args k ih=>intro ρ Q Q' h hx;obtain⟨d,hd,hx⟩:=hx;exact⟨d,hd,ih h hx⟩
 |iteS s c lr lo a b k bH eG kI=>
  intro ρ Q Q' h hx
  have hq:∀x,lx (s.ev ρ) lr lo (gC (fun ρ'=>aH T k ρ' Q) Q) x→lx (s.ev ρ) lr lo (gC (fun ρ'=>aH T k ρ' Q') Q') x:=by
   intro x hx;cases x with
   |next ρ'=>exact kI h hx
   |exit id ρ'=>exact h _ hx
   |ret d=>exact h _ hx
  simp only[aH] at hx ⊢;split
  ·rename_i hc;rw[if_pos hc] at hx;exact bH hq hx
  ·rename_i hc;rw[if_neg hc] at hx;exact eG hq hx
 |blockS s id lr lo a k bH kI=>
  intro ρ Q Q' h hx;refine bH (fun x hx=>?_) hx;cases x with
  |next ρ'=>exact kI h hx
  |exit bS ρ'=>
   simp only[mw] at hx ⊢;split
   ·rename_i e;rw[if_pos e] at hx;exact kI h hx
   ·rename_i e;rw[if_neg e] at hx;exact h _ hx
  |ret d=>exact h _ hx
 |brk s c k ih=>
  intro ρ Q Q' h hx;refine aK.mono hx fun x hx=>?_;cases x with
  |next ρ'=>exact ih h hx
  |exit id ρ'=>exact h _ hx
  |ret d=>exact h _ hx
theorem aK.forRounds {T:cG}{id:Nat}{bF bE lr lo:List Nat}{a:PC}{ρ:Env}{Q:Out→Prop}(N:Nat)(str fI:Nat→List D)(h0:lr.map ρ.r=str 0∧lo.map ρ.o=fI 0)
 (step:∀k,k<N→aH T (round id bF bE lr lo a) (ρ.put lr (str k) lo (fI k)) (fo ρ id bF bE lr lo (fun vr vo=>vr=str (k+1)∧vo=fI (k+1)) Q))
 (last:aH T (round id bF bE lr lo a) (ρ.put lr (str N) lo (fI N)) (fo ρ id bF bE lr lo (fun _ _=>False) Q)):aK T (.block id bF bE (.loop lr lo a)) ρ Q:=by
 refine .forLoop (α:=Nat) (fun k vr vo=>k≤N∧vr=str k∧vo=fI k) (fun k=>N-k) 0 ⟨kU _,h0.1,h0.2⟩ ?_;rintro k vr vo ⟨hk,rfl,rfl⟩;have mono:∀{K K':List D→List D→Prop},(∀a b,K a b→K' a b)→∀x,fo ρ id bF bE lr lo K Q x→fo ρ id bF bE lr lo K' Q x:=by
  intro K K' h x hx;cases x with
  |next ρ'=>exact h _ _ hx
  |exit bS ρ'=>exact hx
  |ret d=>exact hx
 by_cases af:k<N
 ·exact Av _ (mono fun a b ⟨h1,h2⟩=>⟨k+1,by omega,by omega,h1,h2⟩) (step k af)
 ·obtain rfl:k=N:=by omega
  exact Av _ (mono fun a b h=>h.elim) last
theorem W6 {ρ:Env}{id:Nat}{bF bE lr lo:List Nat}{K K':List D→List D→Prop}{Q:Out→Prop}(h:∀a b,K a b→K' a b):∀x,fo ρ id bF bE lr lo K Q x→fo ρ id bF bE lr lo K' Q x:=by
 intro x hx;cases x with
 |next ρ'=>exact h _ _ hx
 |exit bS ρ'=>exact hx
 |ret d=>exact hx
theorem aK.scan {T:cG}{id:Nat}{bF bE lr lo:List Nat}{a:PC}{ρ:Env}{Q:Out→Prop}(N:Nat)(ok:Nat→Prop)(str fI:Nat→List D)(h0:lr.map ρ.r=str 0∧lo.map ρ.o=fI 0)
 (step:∀k,k<N→(∀j,j<k→ok j)→ok k→aH T (round id bF bE lr lo a) (ρ.put lr (str k) lo (fI k)) (fo ρ id bF bE lr lo (fun vr vo=>vr=str (k+1)∧vo=fI (k+1)) Q))
 (bad:∀k,k<N→(∀j,j<k→ok j)→¬ok k→aH T (round id bF bE lr lo a) (ρ.put lr (str k) lo (fI k)) (fo ρ id bF bE lr lo (fun _ _=>False) Q))
 (last:(∀j,j<N→ok j)→aH T (round id bF bE lr lo a) (ρ.put lr (str N) lo (fI N)) (fo ρ id bF bE lr lo (fun _ _=>False) Q)):aK T (.block id bF bE (.loop lr lo a)) ρ Q:=by
 refine .forLoop (α:=Nat) (fun k vr vo=>k≤N∧(∀j,j<k→ok j)∧vr=str k∧vo=fI k) (fun k=>N-k) 0 ⟨kU _,fun j hj=>by omega,h0.1,h0.2⟩ ?_;rintro k vr vo ⟨hk,hj,rfl,rfl⟩;by_cases af:k<N
 ·by_cases ax:ok k
  ·refine Av _ (W6 fun a b ⟨h1,h2⟩=>⟨k+1,by omega,by omega,fun j mE=>?_,h1,h2⟩) (step k af hj ax);by_cases e:j=k
   ·subst e;exact ax
   ·exact hj j (by omega)
  ·exact Av _ (W6 fun a b h=>h.elim) (bad k af hj ax)
 ·obtain rfl:k=N:=by omega
  exact Av _ (W6 fun a b h=>h.elim) (last hj)
def az (n:Nat)(e:PE):PE:=.mk ((List.range n).map fun i=>.cell e i)
def jZ (n:Nat)(d:D):D:=.agg ((List.range n).flatMap fun i=>(d.c i).cells)
theorem aou (ρ:Env)(n:Nat)(e:PE):(az n e).ev ρ=jZ n (e.ev ρ):=by
 have key:∀l:List Nat,PE.evc ρ (l.map fun i=>.cell e i)=l.flatMap fun i=>((e.ev ρ).c i).cells:=by
  intro l
  induction l with
  |nil=>rfl
  |cons i l ih=>simp only[jc,PE.evc,PE.ev,vd,ih]
 show D.agg _=_;rw[key];rfl
end Cx
