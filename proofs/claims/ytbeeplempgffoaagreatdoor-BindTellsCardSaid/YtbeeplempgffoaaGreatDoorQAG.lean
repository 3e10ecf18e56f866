/-
  Shared texts of this claim.
-/
import Derived.Test.YtbeeplempgffoaaGreatDoorQAF
import Derived.Below
import Derived.ChangeSame
import Derived.WalkKit
import Derived.ProofKit
import Derived.OpenShut
import Derived.Carry
import Derived.JoinedCond
set_option linter.unusedSimpArgs false
set_option linter.unusedVariables false
noncomputable section
namespace Cx
open Go Go.RowKit Go.ChangeShapes Go.WideShapes
def mz (w:World):Im:=
 ⟨fun k o=>w.cell? ⟨k,o,none⟩,fun _=>none⟩
theorem anm (w:World):(mz w).ok w:=by
 exact⟨fun k o v h=>h,fun k es h=>by cases h⟩
def AW (P:Program)(r:TypeId→Option Ty):List Field→Nat→Option (List Ty)
 |[],_=>some []
 |f::fs,off=>(r f.type).bind fun ft=>
  bif Nat.beq f.offset off&&Nat.beq (P.cellsOf f.type) ft.flat.length then(AW P r fs (off+ft.flat.length)).map (ft.flat++·) else none
def fM (P:Program):Nat→TypeId→Option Ty
 |0,_=>none
 |n+1,t=>
  match P.underlying t with
  |some .bool=>some .bool
  |some (.int k)=>some (.int k)
  |some .string=>some .str
  |some (.slice e)=>bif rG P e then some (.slice .trm) else(fM P n e).bind fun te=>bif Nat.beq (P.cellsOf e) te.flat.length&&Nat.ble 1 te.flat.length then some (.slice te) else none
  |some (.struct fs)=>(AW P (fM P n) fs.toList 0).bind fun ts=>bif Nat.beq (P.cellsOf t) ts.length then some (.agg ts) else none
  |_=>none
theorem anr {P:Program}{e:TypeId}(h:rG P e=true)(n:Nat):fM P (n+2) e=some .trmA∧P.cellsOf e=3:=by
 unfold rG at h;split at h
 case h_2=>cases h
 rename_i fs hu;split at h
 case h_2=>cases h
 rename_i f0 f1 f2 vF;simp only[ay] at h;obtain⟨⟨⟨⟨⟨⟨⟨⟨⟨h0,h1⟩,h2⟩,o0⟩,o1⟩,o2⟩,c0⟩,c1⟩,c2⟩,c3⟩:=h;split at h0
 case h_2=>cases h0
 rename_i u0;split at h1
 case h_2=>cases h1
 rename_i u1;split at h2
 case h_2=>cases h2
 rename_i e' u2;obtain rfl:=aG h2;have r0:fM P (n+1) f0.type=some (.int .i64):=by simp[fM,u0]
 have r1:fM P (n+1) f1.type=some (.int .i64):=by simp[fM,u1]
 have ht:rG P e'=true:=by
  unfold rG;rw[hu];simp only[vF];simp[u0,u1,u2,aG o0,aG o1,aG o2,aG c0,aG c1,aG c2,aG c3]
 have r2:fM P (n+1) f2.type=some (.slice .trm):=by simp[fM,u2,ht]
 refine⟨?_,aG c3⟩;show fM P (n+1+1) e'=_;rw[fM,hu];simp only[vF,AW,r0,r1,r2,uU,Ty.flat,mU,qK,o0,c0,Bool.and_self,cond_true];simp[aG o1,aG o2,aG c1,aG c2,aG c3,Ty.trmA]
theorem SR {P:Program}{n:Nat}{t:TypeId}{ty:Ty}(h:fM P n t=some ty):ty.rowT=true∨ty.one=true:=by
 cases n with
 |zero=>simp[fM] at h
 |succ n=>
  simp only[fM] at h;split at h
  ·cases h;exact .inr rfl
  ·cases h;exact .inr rfl
  ·cases h;exact .inr rfl
  ·rename_i e _;cases ht:rG P e<;>simp only[ht,cond_true,cond_false] at h
   ·simp only[aB] at h;obtain⟨te,_,h⟩:=h;cases hb:(Nat.beq (P.cellsOf e) te.flat.length&&Nat.ble 1 te.flat.length)<;>simp only[hb,cond_true,cond_false] at h
    ·cases h
    ·cases h;exact .inr rfl
   ·cases h;exact .inr rfl
  ·rename_i fs _;simp only[aB] at h;obtain⟨ts,_,h⟩:=h;cases hb:Nat.beq (P.cellsOf t) ts.length<;>simp only[hb,cond_true,cond_false] at h
   ·cases h
   ·cases h;exact .inl rfl
  ·cases h
def lW (cap:Nat→Option CSig)(σ:Im)(ts:List Ty)(cs:List Value)(ds:List D):Prop:=
 cs.length=ts.length∧ds.length=ts.length∧∀(i:Nat) (u:Ty),ts[i]?=some u→Rep cap σ u (cs.getD i undef) (ds.getD i .none)∧u.one=true
theorem lW.one {cap:Nat→Option CSig}{σ:Im}{t:Ty}{v:Value}{d:D}(h:Rep cap σ t v d)(ht:t.one=true):lW cap σ [t] [v] [d]:=
 ⟨rfl,rfl,fun i u hu=>by
   cases i with
   |zero=>simp at hu;subst hu;exact⟨h,ht⟩
   |succ i=>simp at hu⟩
theorem lW.append {cap:Nat→Option CSig}{σ:Im}{ts us:List Ty}{cs vs:List Value}{ds es:List D}(h:lW cap σ ts cs ds)(k:lW cap σ us vs es):lW cap σ (ts++us) (cs++vs) (ds++es):=by
 obtain⟨h1,h2,h3⟩:=h;obtain⟨k1,k2,k3⟩:=k;refine⟨by simp[h1,k1],by simp[h2,k2],fun i u hu=>?_⟩;by_cases hi:i<ts.length
 ·rw[qH hi] at hu;have:=h3 i u hu;rw[be,be,qH (by omega),qH (by omega)];rw[be,be] at this;exact this
 ·rw[pv (by omega)] at hu;have:=k3 _ u hu;rw[be,be,pv (by omega),pv (by omega),h1,h2];rw[be,be] at this;exact this
def Xu (ag:Bool)(ds:List D):D:=if ag then .agg ds else ds.getD 0 .none
theorem ai2 (t:Ty):t.flat.length=t.size:=by cases t<;>rfl
theorem Rep.ofRow {cap:Nat→Option CSig}{σ:Im}{t:Ty}{cs:List Value}{ds:List D}(gJ:t.rowT=true∨t.one=true)(h:lW cap σ t.flat cs ds):Rep cap σ t (Cx.rowOf t.rowT cs) (Xu t.rowT ds):=by
 obtain⟨h1,h2,h3⟩:=h;cases t with
 |agg ts=>exact .agg ts cs ds h1 h2 (fun i u hu=>(h3 i u hu).1) (fun i u hu=>(h3 i u hu).2)
 |trm=>simp[Ty.rowT,Ty.one] at gJ
 |_=>exact(h3 0 _ rfl).1
theorem ar9 {cap:Nat→Option CSig}{σ:Im}{t:Ty}{cs:List Value}{ds:List D}(gJ:t.rowT=true∨t.one=true)(h:lW cap σ t.flat cs ds){j:Nat}{u:Value}(hj:(rowOf t.rowT cs).cells[j]?=some u):cs[j]?=some u:=by
 obtain⟨h1,h2,h3⟩:=h;cases t with
 |agg ts=>simpa [rowOf,Ty.rowT,Value.cells] using hj
 |trm=>simp[Ty.rowT,Ty.one] at gJ
 |_=>
  have h4:=h3 0 _ rfl;have h5:=(h4.1.oneCell h4.2).1;simp only[rowOf,Ty.rowT,xx,if_false] at hj;rw[h5] at hj;cases j with
  |zero=>
   simp only[FK,LY,bp] at hj
   match cs,h1 with
   |[c],_=>simpa using hj
  |succ j=>simp at hj
section
variable {H:Type} {enc:TypeId×Value→H} {P:Program} {w:World} {base:Nat} {held:Bool} {cap:Nat→Option CSig}
theorem afT {k:IntKind}{n:Int}(h:(Lit.int k n).wf=true):k.min≤n∧n≤k.max:=by
 simpa [Lit.wf] using h
theorem aeA {n m:Nat}(ih:∀(t:TypeId) (cs:List Value) (x:DataW H×List MemPlace) (ty:Ty),DataW.trod enc P w base (fun _=>true) held n t cs=some x→fM P m t=some ty→∃ds,lW cap (mz w) ty.flat cs ds):
 ∀(fs:List Field) (off:Nat) (cs:List Value) (ts:List Ty),AW P (fM P m) fs off=some ts→cs.length=off+ts.length→
  (∀f,f∈fs→∃x,DataW.trod enc P w base (fun _=>true) held n f.type ((cs.drop f.offset).take (P.cellsOf f.type))=some x)→∃ds,lW cap (mz w) ts (cs.drop off) ds
 |[],off,cs,ts,h,hl,_=>by
  simp only[AW,bp] at h;subst h;have:cs.drop off=[]:=by simp at hl ⊢;omega
  rw[this];exact⟨[],rfl,rfl,fun i u hu=>by simp at hu⟩
 |f::fs,off,cs,ts,h,hl,hx=>by
  simp only[AW,aB] at h;obtain⟨ft,hft,h⟩:=h;cases hb:(Nat.beq f.offset off&&Nat.beq (P.cellsOf f.type) ft.flat.length)<;>simp only[hb,cond_true,cond_false] at h
  ·cases h
  simp only[aK] at h;obtain⟨us,De,rfl⟩:=h;simp only[ay] at hb;have e1:=dj hb.1;have e2:=dj hb.2;obtain⟨x,mw⟩:=hx f (fF ..);rw[e1,e2] at mw;obtain⟨B7,nj⟩:=ih _ _ _ _ mw hft;simp only[lT] at hl;obtain⟨ds2,tz⟩:=aeA ih fs (off+ft.flat.length) cs us De (by omega) fun g hg=>hx g (fj _ hg);refine⟨B7++ds2,?_⟩;have:=nj.append tz;rw[←List.drop_drop,L3] at this;exact this
theorem av7:∀(n m:Nat) (t:TypeId) (cs:List Value) (x:DataW H×List MemPlace) (ty:Ty),DataW.trod enc P w base (fun _=>true) held n t cs=some x→fM P m t=some ty→∃ds,lW cap (mz w) ty.flat cs ds:=by
 intro n
 induction n with
 |zero=>intro m t cs x ty h;simp[DataW.trod] at h
 |succ n ih=>
  intro m t cs x ty h bn;cases m with
  |zero=>simp[fM] at bn
  |succ m=>
   simp only[fM] at bn;split at bn
   ·rename_i hu;cases bn;obtain⟨b,rfl,_⟩:=DataW.trod_bool hu h;exact⟨_,.one (.bool b) rfl⟩
   ·rename_i k hu;cases bn;obtain⟨z,rfl,_,hw⟩:=DataW.trod_int hu h;exact⟨_,.one (.int k z (afT hw).1 (afT hw).2) rfl⟩
   ·rename_i hu;cases bn;obtain⟨s,rfl,_,hs⟩:=DataW.trod_string hu h;exact⟨_,.one (.str s hs) rfl⟩
   ·rename_i e hu;have vT:∃(m':Nat) (te uA:Ty),fM P m' e=some te∧P.cellsOf e=te.flat.length∧1≤te.flat.length∧ty=.slice uA∧uA.unf=te:=by
     cases ht:rG P e<;>simp only[ht,cond_true,cond_false] at bn
     ·simp only[aB] at bn;obtain⟨te,vT,bn⟩:=bn;cases hb:(Nat.beq (P.cellsOf e) te.flat.length&&Nat.ble 1 te.flat.length)<;>simp only[hb,cond_true,cond_false] at bn
      ·cases bn
      cases bn;simp only[ay] at hb;exact⟨m,te,te,vT,dj hb.1,kZ hb.2,rfl,Ty.unf_ro (SR vT)⟩
     ·cases bn;obtain⟨k1,k2⟩:=anr ht 0;exact⟨2,.trmA,.trm,k1,k2,by decide,rfl,rfl⟩
    obtain⟨m',te,uA,vT,e1,e2,rfl,mu⟩:=vT;have gJ:=SR vT;rcases DataW.trod_slice hu h with⟨rfl,_⟩|⟨a,len,cp,elems,rest,n',iz,rfl,_,hba,hl,hm,hlen,iy,tF,_⟩
    ·exact⟨_,.one (.nil uA) rfl⟩
    ·cases iz;obtain⟨hrl,tA⟩:=tF rfl
     have ox:∀i,i<cp→∃ci y,w.cells? base (a.add (i*P.cellsOf e)) (P.cellsOf e)=some ci∧DataW.trod enc P w base (fun _=>true) held n e ci=some y:=by
      intro i hi
      have dS:∃y,(w.cells? base (a.add (i*P.cellsOf e)) (P.cellsOf e)).bind (DataW.trod enc P w base (fun _=>true) held n e)=some y:=by
           by_cases IL:i<len
           ·rw[iy i IL];exact⟨_,bW (by omega)⟩
           ·have:=tA (i-len) (by omega);rw[show len+(i-len)=i by omega] at this;rw[this];exact⟨_,bW (by omega)⟩
      obtain⟨y,hy⟩:=dS;rw[aB] at hy;obtain⟨ci,h1,h2⟩:=hy;exact⟨ci,y,h1,h2⟩
     by_cases CD:cp=0
     ·subst CD;have:len=0:=by omega
      subst this;exact⟨_,.one (.emp uA a) rfl⟩
     ·have ZI:a.spot=none:=by
           obtain⟨ci,y,h1,_⟩:=ox 0 (by omega);obtain⟨_,_,h3⟩:=World.cells?_some h1;have:=h3 0 (by omega);simp only[Nat.zero_mul,Addr.add,if_true] at this;unfold World.cell? at this;cases hs:a.spot with
           |none=>rfl
           |some s=>
            exfalso;have hl:ci.length=P.cellsOf e:=(World.cells?_some h1).2.1;split at this
            ·rw[hs] at this;simp at this;subst this;simp at hl;omega
            ·rw[eq_comm,List.getElem?_eq_none_iff] at this;omega
      obtain⟨k,o,s⟩:=a;simp only at ZI;subst ZI;have aW:∀i,∃p:List Value×List D,i<len→w.cells? base ((⟨k,o,none⟩:Addr).add (i*P.cellsOf e)) (P.cellsOf e)=some p.1∧lW cap (mz w) te.flat p.1 p.2:=by
           intro i;by_cases hi:i<len
           ·obtain⟨ci,y,h1,h2⟩:=ox i (by omega);obtain⟨ds,hr⟩:=ih m' _ _ _ _ h2 vT;exact⟨(ci,ds),fun _=>⟨h1,hr⟩⟩
           ·exact⟨([],[]),fun h=>absurd h hi⟩
      obtain⟨f,hf⟩:=Classical.axiomOfChoice aW;refine⟨_,.one (.slice uA k o len cp ((List.range len).map fun i=>Xu te.rowT (f i).2) (fun i=>rowOf te.rowT (f i).1) (by simp) hl hm (fun i x hx=>?_) (fun i j u hi hj=>?_)) rfl⟩
      ·rw[dm,aK] at hx;obtain⟨i',fo,rfl⟩:=hx;have aq:i<len:=by have:=(iu.1 fo).1;simpa using this
       rw[pw aq] at fo;cases fo;rw[mu];exact Rep.ofRow gJ (hf i aq).2
      ·obtain⟨h1,h2⟩:=hf i hi;have je:=ar9 gJ h2 hj;obtain⟨_,h4,h5⟩:=World.cells?_some h1;have gI:j<P.cellsOf e:=by rw[←h4];exact(iu.1 je).1
       have:=h5 j gI;rw[je] at this;show w.cell? ⟨k,o+i*uA.size+j,none⟩=some u;rw[←uA.unf_size,mu,←ai2,←e1,←this]
       congr 1
       simp only[Addr.add];split<;>split<;>simp_all
   ·rename_i fs hu;simp only[aB] at bn;obtain⟨ts,I9,bn⟩:=bn;cases hb:Nat.beq (P.cellsOf t) ts.length<;>simp only[hb,cond_true,cond_false] at bn
    ·cases bn
    cases bn;obtain⟨xs,n',iz,_,hl,vZ,hf⟩:=DataW.trod_struct hu h;cases iz
    have:=aeA (ih m) fs.toList 0 cs ts I9 (by rw[hl,dj hb];omega) (fun f hm=>by
     obtain⟨i,hi⟩:=List.getElem?_of_mem hm;have fo:fs[i]?=some f:=by simpa using hi
     have h1:=hf i f fo;have aq:i<fs.size:=(gl.1 fo).1;exact⟨_,h1.trans (bW (by omega))⟩)
    show ∃ds,lW cap (mz w) ts cs ds;simpa using this
   ·cases bn
theorem BU {base:Nat}{t:TypeId}{v:Value}(h:Cell.okWide P w .any base t v):v.cells=#[v]:=by
 cases v<;>first|rfl|(exfalso;simp only[Cell.okWide,Cell.ok] at h;revert h;cases P.underlying t with|none=>simp|some T=>cases T<;>simp)
theorem agC {base base':Nat}{m:Nat}{t:TypeId}{v:Value}{d:DataW H}{ps:List MemPlace}{ty:Ty}(az:Value.okWide P w .any base' t v)(h:DataW.Trod enc P w base (fun _=>true) held t v d ps)(bn:fM P m t=some ty):∃d,Rep cap (mz w) ty v d:=by
 obtain⟨fuel,h⟩:=h;obtain⟨ds,hr⟩:=av7 (cap:=cap) fuel m t _ _ _ h bn;have cB:=Rep.ofRow (SR bn) hr;cases m with
 |zero=>simp[fM] at bn
 |succ m=>
  suffices hs:rowOf ty.rowT v.cells.toList=v by rw[hs] at cB;exact⟨_,cB⟩
  simp only[fM] at bn;unfold Value.okWide at az;split at bn
  ·rename_i hu;cases bn;rw[hu] at az;simp only at az;rw[BU az];rfl
  ·rename_i hu;cases bn;rw[hu] at az;simp only at az;rw[BU az];rfl
  ·rename_i hu;cases bn;rw[hu] at az;simp only at az;rw[BU az];rfl
  ·rename_i e hu;cases ht:rG P e<;>simp only[ht,cond_true,cond_false] at bn
   ·simp only[aB] at bn;obtain⟨te,_,bn⟩:=bn;cases hb:(Nat.beq (P.cellsOf e) te.flat.length&&Nat.ble 1 te.flat.length)<;>simp only[hb,cond_true,cond_false] at bn
    ·cases bn
    cases bn;rw[hu] at az;simp only at az;rw[BU az];rfl
   ·cases bn;rw[hu] at az;simp only at az;rw[BU az];rfl
  ·rename_i fs hu;simp only[aB] at bn;obtain⟨ts,_,bn⟩:=bn;cases hb:Nat.beq (P.cellsOf t) ts.length<;>simp only[hb,cond_true,cond_false] at bn
   ·cases bn
   cases bn;rw[hu] at az;obtain⟨cs,rfl,_⟩:=az;simp[rowOf,Ty.rowT,Value.cells]
  ·cases bn
def Ff (P:Program)(m:Nat):List TypeId→Option (List Ty)
 |[]=>some []
 |t::ts=>(fM P m t).bind fun x=>(Ff P m ts).map (x::·)
theorem WT {base base' m:Nat}:∀(ts:List TypeId) (vs:List Value) (ds:List (DataW H)) (ps:List MemPlace) (mR:List Ty),DataW.TrodAll enc P w base (fun _=>true) held ts vs ds ps→Ff P m ts=some mR→
 (∀(j:Nat) t v,ts[j]?=some t→vs[j]?=some v→Value.okWide P w .any base' t v)→
 ∃es:List D,vs.length=mR.length∧es.length=mR.length∧∀(i:Nat) (t:Ty),mR[i]?=some t→Rep cap (mz w) t (vs.getD i undef) (es.getD i .none)
 |[],vs,ds,ps,mR,h,bn,_=>by
  simp only[Ff,bp] at bn;subst bn;cases vs with
  |nil=>exact⟨[],rfl,rfl,fun i t h=>by simp at h⟩
  |cons=>cases ds<;>exact h.elim
 |t::ts,vs,ds,ps,mR,h,bn,az=>by
  simp only[Ff,aB,aK] at bn;obtain⟨ty,amX,awc,amY,rfl⟩:=bn;cases vs with
  |nil=>cases ds<;>exact h.elim
  |cons v vs=>
   cases ds with
   |nil=>exact h.elim
   |cons d ds=>
    obtain⟨p,q,h1,h2,_⟩:=h;obtain⟨e,he⟩:=agC (cap:=cap) (az 0 t v rfl rfl) h1 amX;obtain⟨es,k1,k2,k3⟩:=WT ts vs ds q awc h2 amY (fun j t' v' hj hv=>az (j+1) t' v' hj hv);refine⟨e::es,by simp[k1],by simp[k2],fun i u hu=>?_⟩;cases i with
    |zero=>simp at hu;subst hu;exact he
    |succ i=>simpa using k3 i u (by simpa using hu)
end
mutual
inductive DTy:Ty→D→Prop where
 |int (k:IntKind) (n:Int) (h1:k.min≤n) (h2:n≤k.max):DTy (.int k) (.v (.int k n))
 |bool (b:Bool):DTy .bool (.v (.bool b))
 |str (s:ByteArray) (h:s.size≤maxLen):DTy .str (.v (.string s))
 |slice (e:Ty) (xs:List D) (hm:xs.length≤maxLen) (h:∀x,x∈xs→DTy e.unf x):DTy (.slice e) (.list xs)
 |agg (ts:List Ty) (ds:List D) (h:DTys ts ds):DTy (.agg ts) (.agg ds)
 |other (t:Ty) (d:D) (h:match t with|.int _|.bool|.str|.slice _|.agg _=>False|_=>True):DTy t d
inductive DTys:List Ty→List D→Prop where
 |nil:DTys [] []
 |cons {t:Ty} {d:D} {ts:List Ty} {ds:List D} (h:DTy t d) (hs:DTys ts ds):DTys (t::ts) (d::ds)
end
theorem DTys.of_get:∀{ts:List Ty} {ds:List D},ds.length=ts.length→(∀(i:Nat) (t:Ty),ts[i]?=some t→DTy t (ds.getD i .none))→DTys ts ds
 |[],[],_,_=>.nil
 |t::ts,d::ds,hl,h=>.cons (h 0 t rfl) (DTys.of_get (by simpa using hl) fun i u hu=>by simpa using h (i+1) u (by simpa using hu))
 |[],_::_,hl,_=>by simp at hl
 |_::_,[],hl,_=>by simp at hl
theorem Rep.dty {cap:Nat→Option CSig}{σ:Im}{t:Ty}{v:Value}{d:D}(h:Rep cap σ t v d):DTy t d:=by
 induction h with
 |int k n h1 h2=>exact .int k n h1 h2
 |bool b=>exact .bool b
 |str s h=>exact .str s h
 |agg ts vs ds h1 h2 _ ho ih=>exact .agg ts ds (.of_get h2 ih)
 |nil e=>exact .slice e [] (by decide) (fun x hx=>by cases hx)
 |emp e a=>exact .slice e [] (by decide) (fun x hx=>by cases hx)
 |slice e k o n c xs vs hn hc hm _ hv ih=>
  refine .slice e xs (by omega) fun x hx=>?_;obtain⟨i,hi⟩:=List.getElem?_of_mem hx;exact ih i x hi
 |_=>exact .other _ _ trivial
theorem anF {H:Type}{enc:TypeId×Value→H}{C:Ctx}{f:Nat}{fn:Func}{sg:Sig}{spec:ChangeSpec}{tb:TypeId}{apart fresh handsOn again:Bool}(hl:laidOutB C.P=true)
 (gK:Ff C.P 12 fn.params.toList=some sg.args) (amv:fn.params.toList.all (fun t=>C.P.readableRec t&&decide (t<C.P.types.size))=true) (O8:spec.vars=[])
 (amK:∀ds:List (DataW H),ds.length=fn.params.size→(spec.fn H ds).results=[.lit (.bool true)]∧(spec.fn H ds).args=ds∧(spec.fn H ds).vars=[])
 (mq:fn.resultTypes=#[tb]) (ZO:C.P.underlying tb=some .bool) (rB:sg.mode=.dat) (tB:sg.res=.bool)
 (OA:∀ds,DTys sg.args ds→kX C f sg ds (.v (.bool true)))
 (W:World) (YV:CtxOK C (mz W)) (base:Nat) (args:Array Value) (ds gs:List (DataW H)) (before:List MemPlace)
 (cT:∀(j:Nat) t v,fn.params[j]?=some t→args[j]?=some v→Value.okWide C.P W .any base t v)
 (hW:DataW.Whole enc C.P fn.params.toList spec.vars apart W args.toList ds gs before):
 Calls C.P f args W fun e W'=>∃v,e=.returned v∧spec.post enc C.P fn apart fresh handsOn again W args v W':=by
 have Ix:=hW;have aq:∀p∈before,p.block<W.heap.size:=fun p hp=>Ix.lt p hp;obtain⟨p,q,hA,hV,rfl,Om,bS⟩:=hW;rw[O8] at hV;obtain⟨rfl,rfl⟩:=trodVars_none hV;obtain⟨es,k1,k2,k3⟩:=WT (cap:=C.cap) (base':=base) fn.params.toList args.toList ds p sg.args hA gK (fun j t v hj hv=>cT j t v (by simpa using hj) (by simpa using hv));have bn:DTys sg.args es:=.of_get k2 fun i t ht=>(k3 i t ht).dty
 have hlen:∀(ts:List TypeId) (vs:List Value) (ds:List (DataW H)) (ps:List MemPlace),DataW.TrodAll enc C.P W 0 (fun _=>true) true ts vs ds ps→ds.length=ts.length:=by
  intro ts
  induction ts with
  |nil=>intro vs ds ps h;cases vs<;>cases ds<;>first|rfl|exact h.elim
  |cons t ts ih=>
   intro vs ds ps h;cases vs with
   |nil=>cases ds<;>exact h.elim
   |cons v vs=>cases ds with
    |nil=>exact h.elim
    |cons d ds=>obtain⟨p,q,_,h2,_⟩:=h;simp[ih vs ds q h2]
 have Od:ds.length=fn.params.size:=by simpa using hlen _ _ _ _ hA
 obtain⟨s1,s2,s3⟩:=amK (ds++[]) (by simpa using Od);refine(OA es bn (mz W) W args (anm W) YV ⟨k1,k2,k3⟩).mono fun e W' hh=>?_;obtain⟨v,σ',rfl,_,_,hb,_,_,hr⟩:=hh;refine⟨v,rfl,?_⟩;simp only[qM,rB,tB] at hr;obtain⟨b,rfl,vC⟩:=hr.bool_inv;cases vC
 have stays:∀(sp:Nat→Bool) (ts:List TypeId) (vs:List Value) (ds:List (DataW H)) (ps:List MemPlace),ts.all (fun t=>C.P.readableRec t&&decide (t<C.P.types.size))=true→(∀x∈ps,x.block<W.heap.size)→(∀x∈ps,sp x.block=true)→
  DataW.TrodAll enc C.P W 0 (fun _=>true) true ts vs ds ps→DataW.TrodAll enc C.P W' 0 sp true ts vs ds ps:=by
  intro sp ts
  induction ts with
  |nil=>intro vs ds ps _ _ _ h;cases vs<;>cases ds<;>first|exact h|exact h.elim
  |cons t ts ih=>
   intro vs ds ps ha zS tF h;cases vs with
   |nil=>cases ds<;>exact h.elim
   |cons v vs=>cases ds with
    |nil=>exact h.elim
    |cons d ds=>
     obtain⟨p,q,h1,h2,rfl⟩:=h;simp only[sF,ay,decide_eq_true_eq] at ha
     exact⟨p,q,WideElems.Trod_stays hl ha.1.1 ha.1.2 h1 (fun x hx=>hb.same (zS x (ju _ hx))) (fun x hx=>tF x (ju _ hx)),
      ih vs ds q (by simpa using ha.2) (fun x hx=>zS x (jT _ hx)) (fun x hx=>tF x (jT _ hx)) h2,rfl⟩
 have Zg:∀x∈p,x.block<W.heap.size:=fun x hx=>aq x (ju _ hx);have kr:=fun sp (h:∀x∈p,sp x.block=true)=>stays sp _ _ _ _ amv Zg h hA;have tA:∀(b:Nat) (sp:Nat→Bool) (hd:Bool),DataW.TrodAll enc C.P W' b sp hd fn.resultTypes.toList ((Value.bool true).resultList fn.resultTypes.size) [.lit (.bool true)] []:=by
  intro b sp hd;rw[mq];exact trodAll_mk1 (shut_bool ZO true)
 refine⟨ds,[],p++[],[],p,[],Ix,?_,?_,?_,World.keptBut_mono (fun x hx=>⟨hx,?_⟩) (hb.frame (·∈p++[])),fun _=>?_⟩
 ·rw[s1];exact tA _ _ _
 ·rw[s2];simpa using kr _ (fun x hx=>by simpa using Zg x hx)
 ·rw[s3,O8];rfl
 ·simpa using hx
 ·refine⟨ok_one mq rfl (okWide_bool_mk ZO true),_,[],([]++p)++[],⟨[]++p,[],trodAll_append (kr _ (fun _ _=>rfl)) (tA _ _ _),by rw[O8];exact rfl,rfl,?_,?_⟩,?_⟩
  ·intro b off hp;have cf:MemPlace.cell b off∈p++[]:=by simpa using hp
   rw[hb.frozen (aq _ cf)];exact Om b off cf
  ·intro ha;simpa using bS ha
  ·intro x hx _;simpa using hx
end Cx
namespace Cx
open Go Go.RowKit
abbrev cD:=Nat→aR
def aj (T:cD)(f:Nat)(ds:List D)(d:D):Prop:=∃n0,∀n,n0≤n→T n f ds=some d
def xA (T:cD)(l:List PI)(ρ:Env)(Q:Env→Prop):Prop:=∃ρ',Q ρ'∧∃n0,∀n,n0≤n→PI.runs (T n) l ρ=some ρ'
def aH (T:cD)(c:PC)(ρ:Env)(Q:Out→Prop):Prop:=∃x,Q x∧∃n0,∀n,n0≤n→c.ev (T n) n ρ=some x
theorem aH.mono {T:cD}{c:PC}{ρ:Env}{Q Q':Out→Prop}(h:aH T c ρ Q)(hq:∀x,Q x→Q' x):aH T c ρ Q':=by
 obtain⟨x,hx,n0,hn⟩:=h;exact⟨x,hq x hx,n0,hn⟩
theorem xA.nil {T:cD}{ρ:Env}{Q:Env→Prop}(h:Q ρ):xA T [] ρ Q:=⟨ρ,h,0,fun _ _=>rfl⟩
theorem xA.cons {T:cD}{p:PI}{l:List PI}{ρ ρ1:Env}{Q:Env→Prop}{n0:Nat}(h:∀n,n0≤n→p.run (T n) ρ=some ρ1)(k:xA T l ρ1 Q):xA T (p::l) ρ Q:=by
 obtain⟨ρ',hQ,n1,h1⟩:=k;exact⟨ρ',hQ,max n0 n1,fun n hn=>by simp[PI.runs,h n (by omega),h1 n (by omega)]⟩
def gz (T:cD):List PI→Env→(Env→Prop)→Prop
 |[],ρ,Q=>Q ρ
 |.setR t e::l,ρ,Q=>gz T l (ρ.setR t (e.ev ρ)) Q
 |.setO t e::l,ρ,Q=>gz T l (ρ.setO t (e.ev ρ)) Q
 |.chk e::l,ρ,Q=>(e.ev ρ).b=true∧gz T l ρ Q
 |.call gs dst f args::l,ρ,Q=>if holds gs ρ=true then ∃d,aj T f (PE.evs ρ args) d∧gz T l (ρ.setR dst d) Q else gz T l ρ Q
 |.callc gs dst e args::l,ρ,Q=>if holds gs ρ=true then ∃f caps d,e.ev ρ=.clo f caps∧aj T f (PE.evs ρ args++caps) d∧gz T l (ρ.setR dst d) Q else gz T l ρ Q
 |.mcall j f args::l,ρ,Q=>∃d,aj T f (PE.evs ρ args) d∧gz T l (ρ.setO j d) Q
theorem sC {T:cD}:∀{l:List PI} {ρ:Env} {Q:Env→Prop},gz T l ρ Q→xA T l ρ Q
 |[],ρ,Q,h=>.nil h
 |.setR t e::l,ρ,Q,h=>.cons (n0:=0) (fun _ _=>rfl) (sC h)
 |.setO t e::l,ρ,Q,h=>.cons (n0:=0) (fun _ _=>rfl) (sC h)
 |.chk e::l,ρ,Q,h=>.cons (n0:=0) (fun n _=>by simp[PI.run,h.1]) (sC h.2)
 |.call gs dst f args::l,ρ,Q,h=>by
  unfold gz at h;split at h
  ·rename_i hg;obtain⟨d,⟨n0,hn⟩,h⟩:=h;exact .cons (n0:=n0) (fun n hle=>by simp[PI.run,hg,hn n hle]) (sC h)
  ·rename_i hg;exact .cons (n0:=0) (fun n hle=>by simp[PI.run,hg]) (sC h)
 |.callc gs dst e args::l,ρ,Q,h=>by
  unfold gz at h;split at h
  ·rename_i hg;obtain⟨f,caps,d,he,⟨n0,hn⟩,h⟩:=h;exact .cons (n0:=n0) (fun n hle=>by simp[PI.run,hg,he,hn n hle]) (sC h)
  ·rename_i hg;exact .cons (n0:=0) (fun n hle=>by simp[PI.run,hg]) (sC h)
 |.mcall j f args::l,ρ,Q,h=>by
  obtain⟨d,⟨n0,hn⟩,h⟩:=h;exact .cons (n0:=n0) (fun n hle=>by simp[PI.run,hn n hle]) (sC h)
def j7 (ρ:Env)(lr lo:List Nat)(Q:Out→Prop):Out→Prop
 |.next ρ'=>Q (.next (ρ.join lr lo ρ'))
 |x=>Q x
def lg (ρ:Env)(id:Nat)(lr lo:List Nat)(Q:Out→Prop):Out→Prop
 |.next ρ'=>Q (.next (ρ.join lr lo ρ'))
 |.exit bV ρ'=>if bV=id then Q (.next (ρ.join lr lo ρ')) else Q (.exit bV ρ')
 |.ret d=>Q (.ret d)
def gy (K:Env→Prop)(Q:Out→Prop):Out→Prop
 |.next ρ'=>K ρ'
 |.exit id ρ'=>Q (.exit id ρ')
 |.ret d=>Q (.ret d)
theorem aH.is {T:cD}{l:List PI}{ρ:Env}{Q:Out→Prop}(h:gz T l ρ fun ρ'=>Q (.next ρ')):aH T (.is l) ρ Q:=by
 obtain⟨ρ',hQ,n0,hn⟩:=sC h;exact⟨.next ρ',hQ,n0,fun n hle=>by simp[PC.ev,hn n hle]⟩
theorem aH.skip {T:cD}{ρ:Env}{Q:Out→Prop}(h:Q (.next ρ)):aH T .skip ρ Q:=⟨_,h,0,fun _ _=>rfl⟩
theorem aH.exit {T:cD}{ρ:Env}{id:Nat}{Q:Out→Prop}(h:Q (.exit id ρ)):aH T (.exit id) ρ Q:=⟨_,h,0,fun _ _=>rfl⟩
theorem aH.ret {T:cD}{ρ:Env}{e:PE}{Q:Out→Prop}(h:Q (.ret (e.ev ρ))):aH T (.ret e) ρ Q:=⟨_,h,0,fun _ _=>rfl⟩
theorem aH.seq {T:cD}{a b:PC}{ρ:Env}{Q:Out→Prop}(h:aH T a ρ (gy (fun ρ'=>aH T b ρ' Q) Q)):aH T (.seq a b) ρ Q:=by
 obtain⟨x,hx,n0,hn⟩:=h;cases x with
 |next ρ'=>
  obtain⟨y,hy,n1,h1⟩:=hx;exact⟨y,hy,max n0 n1,fun n hle=>by simp[PC.ev,hn n (by omega),h1 n (by omega)]⟩
 |exit id ρ'=>exact⟨_,hx,n0,fun n hle=>by simp[PC.ev,hn n hle]⟩
 |ret d=>exact⟨_,hx,n0,fun n hle=>by simp[PC.ev,hn n hle]⟩
theorem aH.ite {T:cD}{c:PE}{lr lo:List Nat}{a b:PC}{ρ:Env}{Q:Out→Prop}(h:if(c.ev ρ).b=true then aH T a ρ (j7 ρ lr lo Q) else aH T b ρ (j7 ρ lr lo Q)):aH T (.ite c lr lo a b) ρ Q:=by
 split at h
 all_goals
  rename_i hc;obtain⟨x,hx,n0,hn⟩:=h;cases x with
  |next ρ'=>exact⟨_,hx,n0,fun n hle=>by simp[PC.ev,hc,hn n hle]⟩
  |exit id ρ'=>exact⟨_,hx,n0,fun n hle=>by simp[PC.ev,hc,hn n hle]⟩
  |ret d=>exact⟨_,hx,n0,fun n hle=>by simp[PC.ev,hc,hn n hle]⟩
theorem aH.block {T:cD}{id:Nat}{lr lo:List Nat}{a:PC}{ρ:Env}{Q:Out→Prop}(h:aH T a ρ (lg ρ id lr lo Q)):aH T (.block id lr lo a) ρ Q:=by
 obtain⟨x,hx,n0,hn⟩:=h;cases x with
 |next ρ'=>exact⟨_,hx,n0,fun n hle=>by simp[PC.ev,hn n hle]⟩
 |exit bV ρ'=>
  simp only[lg] at hx;split at hx
  ·rename_i e;subst e;exact⟨_,hx,n0,fun n hle=>by simp[PC.ev,hn n hle]⟩
  ·rename_i e;exact⟨_,hx,n0,fun n hle=>by simp[PC.ev,hn n hle,fQ e]⟩
 |ret d=>exact⟨_,hx,n0,fun n hle=>by simp[PC.ev,hn n hle]⟩
theorem aH.loop {T:cD}{lr lo:List Nat}{a:PC}{ρ:Env}{Q:Out→Prop}{α:Type}(inv:α→List D→List D→Prop)(tT:α→Nat)(s0:α)(h0:inv s0 (lr.map ρ.r) (lo.map ρ.o))
 (step:∀s vr vo,inv s vr vo→aH T a (ρ.put lr vr lo vo) (gy (fun ρ'=>∃s',tT s'<tT s∧inv s' (lr.map ρ'.r) (lo.map ρ'.o)) Q)):aH T (.loop lr lo a) ρ Q:=by
 have key:∀(m:Nat) (s:α) (vr vo:List D),tT s≤m→inv s vr vo→∃x,Q x∧∃n0,∀n k,n0≤n→n0≤k→gP (a.ev (T n) n) ρ lr lo k vr vo=some x:=by
  intro m
  induction m with
  |zero=>
   intro s vr vo hm hi;obtain⟨x,hx,n0,hn⟩:=step s vr vo hi;cases x with
   |next ρ'=>obtain⟨s',aq,_⟩:=hx;omega
   |exit id ρ'=>
    refine⟨_,hx,n0+1,fun n k hle hk=>?_⟩;obtain⟨k',rfl⟩:∃k',k=k'+1:=⟨k-1,by omega⟩
    simp[gP,hn n (by omega)]
   |ret d=>
    refine⟨_,hx,n0+1,fun n k hle hk=>?_⟩;obtain⟨k',rfl⟩:∃k',k=k'+1:=⟨k-1,by omega⟩
    simp[gP,hn n (by omega)]
  |succ m ih=>
   intro s vr vo hm hi;obtain⟨x,hx,n0,hn⟩:=step s vr vo hi;cases x with
   |next ρ'=>
    obtain⟨s',aq,fo⟩:=hx;obtain⟨y,hy,n1,h1⟩:=ih s' _ _ (by omega) fo;refine⟨y,hy,max n0 n1+1,fun n k hle hk=>?_⟩;obtain⟨k',rfl⟩:∃k',k=k'+1:=⟨k-1,by omega⟩
    simp[gP,hn n (by omega),h1 n k' (by omega) (by omega)]
   |exit id ρ'=>
    refine⟨_,hx,n0+1,fun n k hle hk=>?_⟩;obtain⟨k',rfl⟩:∃k',k=k'+1:=⟨k-1,by omega⟩
    simp[gP,hn n (by omega)]
   |ret d=>
    refine⟨_,hx,n0+1,fun n k hle hk=>?_⟩;obtain⟨k',rfl⟩:∃k',k=k'+1:=⟨k-1,by omega⟩
    simp[gP,hn n (by omega)]
 obtain⟨x,hx,n0,hn⟩:=key (tT s0) s0 _ _ (bJ _) h0;exact⟨x,hx,n0,fun n hle=>by simp only[PC.ev];exact hn n n hle hle⟩
def sW (ρ:Env)(lo:List Nat)(rt:Option PE)(K:List D→Prop)(Q:Out→Prop):Out→Prop
 |.next ρ'=>K (lo.map ρ'.o)
 |.exit id ρ'=>if id=cL then ∃e,rt=some e∧Q (.ret (e.ev (ρ.put [] [] lo (lo.map ρ'.o)))) else Q (.exit id (ρ.put [] [] lo (lo.map ρ'.o)))
 |.ret _=>False
theorem aH.each {T:cD}{e:PE}{ps lo:List Nat}{rt:Option PE}{a:PC}{ρ:Env}{Q:Out→Prop}(xs:List D)(he:(e.ev ρ).l=xs)(inv:Nat→List D→Prop)(h0:inv 0 (lo.map ρ.o))
 (step:∀k x vo,xs[k]?=some x→inv k vo→aH T a (ρ.put ps (partsOf ps x) lo vo) (sW ρ lo rt (inv (k+1)) Q)) (done:∀vo,inv xs.length vo→Q (.next (ρ.put [] [] lo vo))):aH T (.each e ps lo rt a) ρ Q:=by
 have key:∀(r k:Nat) (vo:List D),k+r=xs.length→inv k vo→∃x,Q x∧∃n0,∀n,n0≤n→g8 (a.ev (T n) n) ρ ps lo rt (xs.drop k) vo=some x:=by
  intro r
  induction r with
  |zero=>
   intro k vo hk hi;have:xs.drop k=[]:=by rw[Wy];omega
   obtain rfl:k=xs.length:=by omega
   exact⟨_,done vo hi,0,fun n _=>by rw[this];rfl⟩
  |succ r ih=>
   intro k vo hk hi;have aq:k<xs.length:=by omega
   rw[agf aq];obtain⟨y,hy,n0,hn⟩:=step k xs[k] vo (bW aq) hi;cases y with
   |next ρ'=>
    obtain⟨z,hz,n1,h1⟩:=ih (k+1) _ (by omega) hy;exact⟨z,hz,max n0 n1,fun n hle=>by simp only[g8,hn n (by omega)];exact h1 n (by omega)⟩
   |exit id ρ'=>
    simp only[sW] at hy;split at hy
    ·rename_i cE;obtain⟨e,h1,h2⟩:=hy;exact⟨_,h2,n0,fun n hle=>by subst cE;simp[g8,hn n hle,h1]⟩
    ·rename_i cE;exact⟨_,hy,n0,fun n hle=>by simp[g8,hn n hle,fQ cE]⟩
   |ret d=>exact hy.elim
 obtain⟨x,hx,n0,hn⟩:=key xs.length 0 _ (by omega) h0;exact⟨x,hx,n0,fun n hle=>by simp only[PC.ev,he];exact hn n hle⟩
theorem ac9 {α:Type}:∀(l:List α),∃L:List (List α),∀ys,ys∈L↔ys.Perm l
 |[]=>⟨[[]],fun ys=>by simp⟩
 |x::l=>by
  obtain⟨L,hL⟩:=ac9 l;refine⟨L.flatMap fun ys=>(List.range (ys.length+1)).map fun i=>ys.take i++x::ys.drop i,fun zs=>?_⟩;simp only[FL,eR,gm];constructor
  ·rintro⟨ys,hy,i,_,rfl⟩;have h1:=(hL ys).1 hy;refine(List.perm_middle).trans (.cons x ?_);rw[L3];exact h1
  ·intro h;have hx:x∈zs:=h.symm.subset (fF ..);obtain⟨s,t,rfl⟩:=List.append_of_mem hx;refine⟨s++t,(hL _).2 ?_,s.length,by simp;omega,by simp⟩;exact(List.perm_cons x).1 ((List.perm_middle).symm.trans h)
theorem aH.meach {T:cD}{J:Nat}{ps cY lo:List Nat}{a:PC}{ρ:Env}{Q:Out→Prop}(es:List (D×D))(he:ρ.o J=.tup [.list [],.map es])(inv:List D→List D→Prop)(h0:inv [] (lo.map ρ.o))
 (step:∀done x rest vo,(done++x::rest).Perm (gR (.map es))→inv done vo→aH T a ((ρ.put ps (cY.map x.tget) lo vo).setO J (.tup [.list (done++[x]),.map es])) (fun y=>∃ρ',y=.next ρ'∧inv (done++[x]) (lo.map ρ'.o)))
 (last:∃vo,(∀done,done.Perm (gR (.map es))→∀qA,inv done qA→qA=vo)∧Q (.next (ρ.put [] [] lo vo))):aH T (.meach J ps cY lo a) ρ Q:=by
 obtain⟨vo,hl,hQ⟩:=last;have key:∀(xs done:List D) (vs:List D),(done++xs).Perm (gR (.map es))→inv done vs→∃n0,∀n,n0≤n→nv (a.ev (T n) n) ρ J (.map es) ps cY lo xs done vs=some vo:=by
  intro xs
  induction xs with
  |nil=>intro done vs hp hi;exact⟨0,fun n _=>by rw[hl done (by simpa using hp) vs hi];rfl⟩
  |cons x xs ih=>
   intro done vs hp hi;obtain⟨y,⟨ρ',rfl,fo⟩,n0,hn⟩:=step done x xs vs hp hi;obtain⟨n1,h1⟩:=ih (done++[x]) _ (by simpa using hp) fo;exact⟨max n0 n1,fun n hle=>by simp only[nv,hn n (by omega)];exact h1 n (by omega)⟩
 have oz:∀(L:List (List D)),(∀ys,ys∈L→ys.Perm (gR (.map es)))→∃n0,∀n,n0≤n→∀ys,ys∈L→nv (a.ev (T n) n) ρ J (.map es) ps cY lo ys [] (lo.map ρ.o)=some vo:=by
  intro L
  induction L with
  |nil=>intro _;exact⟨0,fun n _ ys hy=>by cases hy⟩
  |cons y L ih=>
   intro hL;obtain⟨n0,eI⟩:=ih fun ys hy=>hL ys (fj _ hy);obtain⟨n1,h1⟩:=key y [] _ (by simpa using hL y (fF ..)) h0;refine⟨max n0 n1,fun n hle ys hy=>?_⟩;rcases di.1 hy with e|hy
   ·subst e;exact h1 n (by omega)
   ·exact eI n (by omega) ys hy
 obtain⟨L,hL⟩:=ac9 (gR (.map es));obtain⟨n0,hn⟩:=oz L fun ys hy=>(hL ys).1 hy;refine⟨_,hQ,n0,fun n hle=>?_⟩;simp only[PC.ev,Aw];refine⟨vo,⟨by rw[he];rfl,fun ys hy=>?_⟩,rfl⟩;rw[he] at hy ⊢;exact hn n hle ys ((hL ys).2 hy)
theorem bounded {Q:Nat→Nat→Prop}:∀(L:Nat),(∀m,m≤L→∃n0,∀n,n0≤n→Q m n)→∃n0,∀n,n0≤n→∀m,m≤L→Q m n
 |0,h=>by
  obtain⟨n0,hn⟩:=h 0 (bJ _)
  exact⟨n0,fun n hle m hm=>by obtain rfl:m=0:=by omega
                              exact hn n hle⟩
 |L+1,h=>by
  obtain⟨n0,hn⟩:=bounded L fun m hm=>h m (by omega);obtain⟨n1,h1⟩:=h (L+1) (bJ _);refine⟨max n0 n1,fun n hle m hm=>?_⟩;by_cases e:m=L+1
  ·subst e;exact h1 n (by omega)
  ·exact hn n (by omega) m (by omega)
theorem aj.of_pc {tab:Nat→Option PC}{ext:Nat→Option (aR→List D→Option D)}{f:Nat}{pc:PC}{ds:List D}{d:D}(hx:ext f=none)(ht:tab f=some pc)(h:aH (fb tab ext) pc (l8 ds) (fun x=>x=.ret d)):aj (fb tab ext) f ds d:=by
 obtain⟨x,rfl,n0,hn⟩:=h;refine⟨n0+1,fun n hle=>?_⟩;obtain⟨k,rfl⟩:∃k,n=k+1:=⟨n-1,by omega⟩
 simp[fb,hx,ht,hn k (by omega)]
theorem aj.of_ext {tab:Nat→Option PC}{ext:Nat→Option (aR→List D→Option D)}{f:Nat}{g:aR→List D→Option D}{ds:List D}{d:D}(hx:ext f=some g)(h:∃n0,∀n,n0≤n→g (fb tab ext n) ds=some d):aj (fb tab ext) f ds d:=by
 obtain⟨n0,hn⟩:=h;refine⟨n0+1,fun n hle=>?_⟩;obtain⟨k,rfl⟩:∃k,n=k+1:=⟨n-1,by omega⟩
 simp[fb,hx,hn k (by omega)]
def FC (T:cD)(xs:List D)(m:Nat):cD:=fun n=>yldΦ (T n) xs m
theorem aj.yld {T:cD}{xs:List D}{m f:Nat}{ds:List D}{d:D}(h:aj T f ds d)(hf:f≠lP):aj (FC T xs m) f ds d:=by
 obtain⟨n0,hn⟩:=h;exact⟨n0,fun n hle=>by simp[FC,yldΦ,hf,hn n hle]⟩
theorem aj.answer {T:cD}{xs l:List D}{m i:Nat}(hl:l=xs.take (i+1))(hi:i<xs.length)(hm:i≤m):aj (FC T xs m) lP [.list l] (.v (.bool (decide (i<m)))):=by
 subst hl;refine⟨0,fun n _=>?_⟩;have h1:(xs.take (i+1)).length=i+1:=by rw[dZ];omega
 simp only[FC,yldΦ,if_true,h1];rw[if_pos ⟨by omega,by omega,trivial⟩];rfl
theorem aj.of_it {tab:Nat→Option PC}{ext:Nat→Option (aR→List D→Option D)}{f:Nat}{pc:PC}{J k:Nat}{spec:List D→List D}{ds:List D}(hx:ext f=some (Dq pc J k spec))(hk:∀x,x∈spec ds→∃cw,x=.tup cw∧cw.length=k)
 (h:∀m,m≤(spec ds).length→aH (FC (fb tab ext) (spec ds) m) pc (zf J ds) (fun x=>x=.ret (.list ((spec ds).take (m+1))))):aj (fb tab ext) f ds (.list (spec ds)):=by
 refine aj.of_ext hx ?_
 obtain⟨n0,hn⟩:=bounded (Q:=fun m n=>pc.ev (yldΦ (fb tab ext n) (spec ds) m) n (zf J ds)=some (.ret (.list ((spec ds).take (m+1))))) (spec ds).length (fun m hm=>by
  obtain⟨x,rfl,n0,hn⟩:=h m hm;exact⟨n0,hn⟩)
 refine⟨n0,fun n hle=>?_⟩;unfold Dq;rw[if_pos];exact⟨fun m hm=>⟨n,hn n hle m hm⟩,hk⟩
theorem aj.det {T:cD}{f:Nat}{ds:List D}{d d':D}(h:aj T f ds d)(k:aj T f ds d'):d=d':=by
 obtain⟨n0,hn⟩:=h;obtain⟨n1,h1⟩:=k;have:=(hn (max n0 n1) (by omega)).symm.trans (h1 (max n0 n1) (by omega));exact Bo this
theorem aj.fnOK {C:Ctx}{tab:Nat→Option PC}{ext:Nat→Option (aR→List D→Option D)}(h:TabOK C tab ext){f:Nat}{s:Sig}{ds:List D}{d:D}(hs:C.sig f=some s)(hr:aj (fb tab ext) f ds d)(hm:we s.mode=false:=by rfl):kX C f s ds d:=by
 obtain⟨n0,hn⟩:=hr;exact((WL h n0).1 f ds d (hn n0 (bJ _)) s hs).1 hm
def Le (Φ Ψ:aR):Prop:=∀f ds d,Φ f ds=some d→Ψ f ds=some d
theorem Env.setR_r (ρ:Env)(t u:Nat)(d:D):(ρ.setR t d).r u=if u=t then d else ρ.r u:=by simp only[Env.setR,gj]
theorem Env.setO_o (ρ:Env)(t u:Nat)(d:D):(ρ.setO t d).o u=if u=t then d else ρ.o u:=by simp only[Env.setO,gj]
theorem Env.join_r (ρ ρ':Env)(lr lo:List Nat)(u:Nat):(ρ.join lr lo ρ').r u=if u∈lr then ρ'.r u else ρ.r u:=by simp only[Env.join,Env.put,rP]
theorem Env.join_o (ρ ρ':Env)(lr lo:List Nat)(u:Nat):(ρ.join lr lo ρ').o u=if u∈lo then ρ'.o u else ρ.o u:=by simp only[Env.join,Env.put,rP]
theorem J2 (f:Nat→D)(i:Nat)(is:List Nat)(x:D)(xs:List D)(u:Nat):putL f (i::is) (x::xs) u=if u=i then x else putL f is xs u:=by simp only[putL,gj]
theorem J3 (f:Nat→D)(xs:List D)(u:Nat):putL f [] xs u=f u:=by cases xs<;>rfl
theorem amg (g:Nat×Bool)(gs:List (Nat×Bool))(ρ:Env):holds (g::gs) ρ=((ρ.r g.1).b==g.2&&holds gs ρ):=rfl
theorem D.tget_tup (x:List D)(i:Nat):(D.tup x).tget i=x.getD i .none:=rfl
theorem D.c_agg (x:List D)(i:Nat):(D.agg x).c i=x.getD i .none:=rfl
end Cx
namespace Cx
open Go Go.RowKit
structure SE where
 r:List (Nat×PE)
 o:List (Nat×PE)
def SE.getR (s:SE)(t:Nat):PE:=match bP s.r t with|some e=>e|none=>.r t
def SE.getO (s:SE)(t:Nat):PE:=match bP s.o t with|some e=>e|none=>.o t
def SE.setR (s:SE)(t:Nat)(e:PE):SE:=⟨(t,e)::s.r,s.o⟩
def SE.setO (s:SE)(t:Nat)(e:PE):SE:=⟨s.r,(t,e)::s.o⟩
def SE.id:SE:=⟨[],[]⟩
def SE.ev (s:SE)(ρ:Env):Env:=⟨fun t=>(s.getR t).ev ρ,fun t=>(s.getO t).ev ρ⟩
def SE.join (s:SE)(lr lo:List Nat)(s':SE):SE:=⟨lr.map (fun t=>(t,s'.getR t))++s.r,lo.map (fun t=>(t,s'.getO t))++s.o⟩
theorem SE.setR_ev (s:SE)(t:Nat)(e:PE)(ρ:Env):(s.setR t e).ev ρ=(s.ev ρ).setR t (e.ev ρ):=by
 have h:(fun u=>((s.setR t e).getR u).ev ρ)=cu (fun u=>(s.getR u).ev ρ) t (e.ev ρ):=by
  funext u;simp only[SE.getR,SE.setR,bP,gj];by_cases h:t=u
  ·subst h;simp
  ·have h':¬u=t:=fun e=>h e.symm;simp[fQ h,h']
 simp only[SE.ev,Env.setR];rw[h];rfl
theorem SE.setO_ev (s:SE)(t:Nat)(e:PE)(ρ:Env):(s.setO t e).ev ρ=(s.ev ρ).setO t (e.ev ρ):=by
 have h:(fun u=>((s.setO t e).getO u).ev ρ)=cu (fun u=>(s.getO u).ev ρ) t (e.ev ρ):=by
  funext u;simp only[SE.getO,SE.setO,bP,gj];by_cases h:t=u
  ·subst h;simp
  ·have h':¬u=t:=fun e=>h e.symm;simp[fQ h,h']
 simp only[SE.ev,Env.setO];rw[h];rfl
theorem wq {f:Nat→PE}{l:List (Nat×PE)}{u:Nat}:∀(lr:List Nat),bP (lr.map (fun t=>(t,f t))++l) u=if u∈lr then some (f u) else bP l u
 |[]=>by simp
 |t::lr=>by
  simp only[iX,LV,bP,wq lr,di];by_cases h:t=u
  ·subst h;simp
  ·have h':¬u=t:=fun e=>h e.symm;simp[fQ h,h']
theorem SE.join_ev (s s':SE)(lr lo:List Nat)(ρ:Env):(s.join lr lo s').ev ρ=(s.ev ρ).join lr lo (s'.ev ρ):=by
 have h1:∀u,((s.join lr lo s').getR u).ev ρ=((s.ev ρ).join lr lo (s'.ev ρ)).r u:=by
  intro u;rw[Env.join_r];have e:bP (s.join lr lo s').r u=if u∈lr then some (s'.getR u) else bP s.r u:=wq lr;unfold SE.getR;rw[e];by_cases h:u∈lr
  ·simp only[h,if_true];rfl
  ·simp only[h,if_false];rfl
 have h2:∀u,((s.join lr lo s').getO u).ev ρ=((s.ev ρ).join lr lo (s'.ev ρ)).o u:=by
  intro u;rw[Env.join_o];have e:bP (s.join lr lo s').o u=if u∈lo then some (s'.getO u) else bP s.o u:=wq lo;unfold SE.getO;rw[e];by_cases h:u∈lo
  ·simp only[h,if_true];rfl
  ·simp only[h,if_false];rfl
 have e1:(fun u=>((s.join lr lo s').getR u).ev ρ)=((s.ev ρ).join lr lo (s'.ev ρ)).r:=funext h1;have e2:(fun u=>((s.join lr lo s').getO u).ev ρ)=((s.ev ρ).join lr lo (s'.ev ρ)).o:=funext h2;show Env.mk _ _=_;rw[e1,e2]
abbrev bZ:=List (PE×Bool)
def bZ.ok (ae:bZ)(ρ:Env):Prop:=∀x,x∈ae→(x.1.ev ρ).b=x.2
def FZ (e:PE):bZ→Option Bool
 |[]=>none
 |x::l=>bif PE.beq x.1 e then some x.2 else FZ e l
theorem WY {e:PE}{ρ:Env}{b:Bool}:∀{ae:bZ},ae.ok ρ→FZ e ae=some b→(e.ev ρ).b=b
 |[],_,h=>by cases h
 |x::l,az,h=>by
  simp only[FZ] at h;cases hb:PE.beq x.1 e<;>simp only[hb,cond_true,cond_false] at h
  ·exact WY (fun y hy=>az y (fj _ hy)) h
  ·cases h;rw[←PE.beq_eq _ _ hb];exact az x (fF ..)
def uJ (ae:bZ):PE→Option Bool
 |.con (.v (.bool b))=>some b
 |.nt x=>(uJ ae x).map (!·)
 |e=>FZ e ae
theorem xo {ae:bZ}{ρ:Env}(h:ae.ok ρ):∀{e:PE} {b:Bool},uJ ae e=some b→(e.ev ρ).b=b
 |.con (.v (.bool b)),b',he=>by simp only[uJ,bp] at he;subst he;rfl
 |.nt x,b',he=>by
  simp only[uJ,aK] at he;obtain⟨c,hc,rfl⟩:=he;simp only[PE.ev,D.b_bool,xo h hc]
 |e,b',he=>by
  unfold uJ at he;split at he
  ·cases he;rfl
  ·rename_i x;simp only[aK] at he;obtain⟨c,hc,rfl⟩:=he;simp only[PE.ev,D.b_bool,xo h hc]
  ·exact WY h he
def rO (ae:bZ)(c a b:PE):PE:=match uJ ae c with|some true=>a|some false=>b|none=>.pick c a b
theorem QW {ae:bZ}{ρ:Env}(h:ae.ok ρ)(c a b:PE):(rO ae c a b).ev ρ=(PE.pick c a b).ev ρ:=by
 unfold rO;split
 ·rename_i ht;simp[PE.ev,xo h ht]
 ·rename_i ht;simp[PE.ev,xo h ht]
 ·rfl
def Nv:PE→PE
 |.ref x=>x
 |x=>.deref x
theorem ahN (x:PE)(ρ:Env):(Nv x).ev ρ=(PE.deref x).ev ρ:=by unfold Nv;split<;>rfl
def Tk:PE→Nat→PE
 |.tup es,i=>es.getD i (.con .none)
 |x,i=>.tget x i
theorem as3 (x:PE)(i:Nat)(ρ:Env):(Tk x i).ev ρ=(PE.tget x i).ev ρ:=by
 unfold Tk;split
 ·rename_i es;simp only[PE.ev,D.tget_tup,PE.evs_eq,be,dm];cases es[i]?<;>rfl
 ·rfl
def DG:PE→Bool
 |.ai ..|.ci ..|.cb ..|.cs ..|.sadd ..|.nt _|.conv ..|.llen _|.bytes _|.slen _|.mlen _|.idx ..|.sidx ..|.sok ..|.slok ..|.lst _|.app ..|.setn ..|.rep ..|.slc ..|.ref _|.has ..|.put ..|.an ..|.imp ..|.tup _|.clo ..=>true
 |.con (.v _)|.con (.list _)|.con (.map _)=>true
 |_=>false
theorem apY {e:PE}(h:DG e=true)(ρ:Env):(e.ev ρ).cells=[e.ev ρ]:=by
 unfold DG at h;split at h<;>first|rfl|cases h
def Nn:PE→Nat→PE
 |.mk es,i=>bif es.all DG then es.getD i (.con .none) else .cell (.mk es) i
 |x,i=>.cell x i
theorem XO {ρ:Env}:∀{es:List PE},es.all DG=true→PE.evc ρ es=PE.evs ρ es
 |[],_=>rfl
 |e::es,h=>by
  simp only[sF,ay] at h;simp only[PE.evc,PE.evs,apY h.1,XO h.2];rfl
theorem ag9 (x:PE)(i:Nat)(ρ:Env):(Nn x i).ev ρ=(PE.cell x i).ev ρ:=by
 unfold Nn;split
 ·rename_i es;cases hc:es.all DG
  ·rfl
  ·simp only[cond_true,PE.ev,XO hc,D.c_agg,PE.evs_eq,be,dm];cases es[i]?<;>rfl
 ·rfl
def Cv (s:SE):List (Nat×Bool)→PE
 |[]=>.con (.v (.bool true))
 |g::gs=>.an (bif g.2 then s.getR g.1 else .nt (s.getR g.1)) (Cv s gs)
theorem Ya (s:SE)(ρ:Env):∀gs,((Cv s gs).ev ρ).b=holds gs (s.ev ρ)
 |[]=>rfl
 |g::gs=>by
  have ih:=Ya s ρ gs;rw[amg,←ih];have e:((s.ev ρ).r g.1)=(s.getR g.1).ev ρ:=rfl;rw[e];cases hg:g.2
  ·simp only[Cv,hg,cond_false,PE.ev,D.b_bool];cases((s.getR g.1).ev ρ).b<;>rfl
  ·simp only[Cv,hg,cond_true,PE.ev,D.b_bool];cases((s.getR g.1).ev ρ).b<;>rfl
mutual
def PE.sub' (ae:bZ)(s:SE):PE→PE
 |.r t=>s.getR t
 |.o j=>s.getO j
 |.con d=>.con d
 |.cell e i=>Nn (PE.sub' ae s e) i
 |.sub e a b=>.sub (PE.sub' ae s e) a b
 |.setc e q x=>.setc (PE.sub' ae s e) q (PE.sub' ae s x)
 |.mk es=>.mk (PE.subs' ae s es)
 |.ai op k x y=>.ai op k (PE.sub' ae s x) (PE.sub' ae s y)
 |.ci op x y=>.ci op (PE.sub' ae s x) (PE.sub' ae s y)
 |.cb op x y=>.cb op (PE.sub' ae s x) (PE.sub' ae s y)
 |.cs op x y=>.cs op (PE.sub' ae s x) (PE.sub' ae s y)
 |.sadd x y=>.sadd (PE.sub' ae s x) (PE.sub' ae s y)
 |.nt x=>.nt (PE.sub' ae s x)
 |.conv k x=>.conv k (PE.sub' ae s x)
 |.pick c a b=>rO ae (PE.sub' ae s c) (PE.sub' ae s a) (PE.sub' ae s b)
 |.llen x=>.llen (PE.sub' ae s x)
 |.bytes x=>.bytes (PE.sub' ae s x)
 |.slen x=>.slen (PE.sub' ae s x)
 |.mlen x=>.mlen (PE.sub' ae s x)
 |.nth x y=>.nth (PE.sub' ae s x) (PE.sub' ae s y)
 |.idx x y=>.idx (PE.sub' ae s x) (PE.sub' ae s y)
 |.sidx x y=>.sidx (PE.sub' ae s x) (PE.sub' ae s y)
 |.sok x y=>.sok (PE.sub' ae s x) (PE.sub' ae s y)
 |.setn x y n z=>.setn (PE.sub' ae s x) (PE.sub' ae s y) n (PE.sub' ae s z)
 |.app x y=>.app (PE.sub' ae s x) (PE.sub' ae s y)
 |.lst es=>.lst (PE.subs' ae s es)
 |.rep x y=>.rep (PE.sub' ae s x) (PE.sub' ae s y)
 |.slc x y z=>.slc (PE.sub' ae s x) (PE.sub' ae s y) (PE.sub' ae s z)
 |.slok x y z=>.slok (PE.sub' ae s x) (PE.sub' ae s y) (PE.sub' ae s z)
 |.ref x=>.ref (PE.sub' ae s x)
 |.deref x=>Nv (PE.sub' ae s x)
 |.look x y z=>.look (PE.sub' ae s x) (PE.sub' ae s y) (PE.sub' ae s z)
 |.has x y=>.has (PE.sub' ae s x) (PE.sub' ae s y)
 |.put x y z=>.put (PE.sub' ae s x) (PE.sub' ae s y) (PE.sub' ae s z)
 |.mn x y=>.mn (PE.sub' ae s x) (PE.sub' ae s y)
 |.mx x y=>.mx (PE.sub' ae s x) (PE.sub' ae s y)
 |.tup es=>.tup (PE.subs' ae s es)
 |.tget x i=>Tk (PE.sub' ae s x) i
 |.clo f es=>.clo f (PE.subs' ae s es)
 |.an x y=>.an (PE.sub' ae s x) (PE.sub' ae s y)
 |.imp c x=>.nt (.an (Cv s c) (.nt (PE.sub' ae s x)))
def PE.subs' (ae:bZ)(s:SE):List PE→List PE
 |[]=>[]
 |e::es=>PE.sub' ae s e::PE.subs' ae s es
end
mutual
theorem PE.sub_ev {ae:bZ}{ρ:Env}(h:ae.ok ρ)(s:SE):∀(e:PE),(PE.sub' ae s e).ev ρ=e.ev (s.ev ρ)
 |.r t=>rfl
 |.o j=>rfl
 |.con d=>rfl
 |.cell e i=>by simp only[PE.sub',ag9,PE.ev,PE.sub_ev h s e]
 |.sub e a b=>by simp only[PE.sub',PE.ev,PE.sub_ev h s e]
 |.setc e q x=>by simp only[PE.sub',PE.ev,PE.sub_ev h s e,PE.sub_ev h s x]
 |.mk es=>by simp only[PE.sub',PE.ev,PE.subc_ev h s es]
 |.ai op k x y=>by simp only[PE.sub',PE.ev,PE.sub_ev h s x,PE.sub_ev h s y]
 |.ci op x y=>by simp only[PE.sub',PE.ev,PE.sub_ev h s x,PE.sub_ev h s y]
 |.cb op x y=>by simp only[PE.sub',PE.ev,PE.sub_ev h s x,PE.sub_ev h s y]
 |.cs op x y=>by simp only[PE.sub',PE.ev,PE.sub_ev h s x,PE.sub_ev h s y]
 |.sadd x y=>by simp only[PE.sub',PE.ev,PE.sub_ev h s x,PE.sub_ev h s y]
 |.nt x=>by simp only[PE.sub',PE.ev,PE.sub_ev h s x]
 |.conv k x=>by simp only[PE.sub',PE.ev,PE.sub_ev h s x]
 |.pick c a b=>by simp only[PE.sub',QW h,PE.ev,PE.sub_ev h s c,PE.sub_ev h s a,PE.sub_ev h s b]
 |.llen x=>by simp only[PE.sub',PE.ev,PE.sub_ev h s x]
 |.bytes x=>by simp only[PE.sub',PE.ev,PE.sub_ev h s x]
 |.slen x=>by simp only[PE.sub',PE.ev,PE.sub_ev h s x]
 |.mlen x=>by simp only[PE.sub',PE.ev,PE.sub_ev h s x]
 |.nth x y=>by simp only[PE.sub',PE.ev,PE.sub_ev h s x,PE.sub_ev h s y]
 |.idx x y=>by simp only[PE.sub',PE.ev,PE.sub_ev h s x,PE.sub_ev h s y]
 |.sidx x y=>by simp only[PE.sub',PE.ev,PE.sub_ev h s x,PE.sub_ev h s y]
 |.sok x y=>by simp only[PE.sub',PE.ev,PE.sub_ev h s x,PE.sub_ev h s y]
 |.setn x y n z=>by simp only[PE.sub',PE.ev,PE.sub_ev h s x,PE.sub_ev h s y,PE.sub_ev h s z]
 |.app x y=>by simp only[PE.sub',PE.ev,PE.sub_ev h s x,PE.sub_ev h s y]
 |.lst es=>by simp only[PE.sub',PE.ev,PE.subs_ev h s es]
 |.rep x y=>by simp only[PE.sub',PE.ev,PE.sub_ev h s x,PE.sub_ev h s y]
 |.slc x y z=>by simp only[PE.sub',PE.ev,PE.sub_ev h s x,PE.sub_ev h s y,PE.sub_ev h s z]
 |.slok x y z=>by simp only[PE.sub',PE.ev,PE.sub_ev h s x,PE.sub_ev h s y,PE.sub_ev h s z]
 |.ref x=>by simp only[PE.sub',PE.ev,PE.sub_ev h s x]
 |.deref x=>by simp only[PE.sub',ahN,PE.ev,PE.sub_ev h s x]
 |.look x y z=>by simp only[PE.sub',PE.ev,PE.sub_ev h s x,PE.sub_ev h s y,PE.sub_ev h s z]
 |.has x y=>by simp only[PE.sub',PE.ev,PE.sub_ev h s x,PE.sub_ev h s y]
 |.put x y z=>by simp only[PE.sub',PE.ev,PE.sub_ev h s x,PE.sub_ev h s y,PE.sub_ev h s z]
 |.mn x y=>by simp only[PE.sub',PE.ev,PE.sub_ev h s x,PE.sub_ev h s y]
 |.mx x y=>by simp only[PE.sub',PE.ev,PE.sub_ev h s x,PE.sub_ev h s y]
 |.tup es=>by simp only[PE.sub',PE.ev,PE.subs_ev h s es]
 |.tget x i=>by simp only[PE.sub',as3,PE.ev,PE.sub_ev h s x]
 |.clo f es=>by simp only[PE.sub',PE.ev,PE.subs_ev h s es]
 |.an x y=>by simp only[PE.sub',PE.ev,PE.sub_ev h s x,PE.sub_ev h s y]
 |.imp c x=>by
  simp only[PE.sub',PE.ev,D.b_bool,Ya,PE.sub_ev h s x];cases holds c (s.ev ρ)<;>cases(x.ev (s.ev ρ)).b<;>rfl
theorem PE.subs_ev {ae:bZ}{ρ:Env}(h:ae.ok ρ)(s:SE):∀(es:List PE),PE.evs ρ (PE.subs' ae s es)=PE.evs (s.ev ρ) es
 |[]=>rfl
 |e::es=>by simp only[PE.subs',PE.evs,PE.sub_ev h s e,PE.subs_ev h s es]
theorem PE.subc_ev {ae:bZ}{ρ:Env}(h:ae.ok ρ)(s:SE):∀(es:List PE),PE.evc ρ (PE.subs' ae s es)=PE.evc (s.ev ρ) es
 |[]=>rfl
 |e::es=>by simp only[PE.subs',PE.evc,PE.sub_ev h s e,PE.subc_ev h s es]
end
inductive PT where
 |next (s:SE)
 |exit (id:Nat) (s:SE)
 |ret (e:PE)
 |chk (e:PE) (k:PT)
 |ite (c:PE) (a b:PT)
 |call (s:SE) (gs:List (Nat×Bool)) (dst f:Nat) (args:List PE) (k:PT)
 |callc (s:SE) (gs:List (Nat×Bool)) (dst:Nat) (e:PE) (args:List PE) (k:PT)
 |mcall (s:SE) (j f:Nat) (args:List PE) (k:PT)
 |iteS (s:SE) (c:PE) (lr lo:List Nat) (a b k:PT)
 |blockS (s:SE) (id:Nat) (lr lo:List Nat) (a k:PT)
 |brk (s:SE) (c:PC) (k:PT)
def aE (T:cD):PT→Env→(Out→Prop)→Prop
 |.next s,ρ,Q=>Q (.next (s.ev ρ))
 |.exit id s,ρ,Q=>Q (.exit id (s.ev ρ))
 |.ret e,ρ,Q=>Q (.ret (e.ev ρ))
 |.chk e k,ρ,Q=>(e.ev ρ).b=true∧aE T k ρ Q
 |.ite c a b,ρ,Q=>if(c.ev ρ).b=true then aE T a ρ Q else aE T b ρ Q
 |.call s gs dst f args k,ρ,Q=>if holds gs (s.ev ρ)=true then ∃d,aj T f (PE.evs ρ args) d∧aE T k ((s.ev ρ).setR dst d) Q else aE T k (s.ev ρ) Q
 |.callc s gs dst e args k,ρ,Q=>if holds gs (s.ev ρ)=true then ∃f caps d,e.ev ρ=.clo f caps∧aj T f (PE.evs ρ args++caps) d∧aE T k ((s.ev ρ).setR dst d) Q else aE T k (s.ev ρ) Q
 |.mcall s j f args k,ρ,Q=>∃d,aj T f (PE.evs ρ args) d∧aE T k ((s.ev ρ).setO j d) Q
 |.iteS s c lr lo a b k,ρ,Q=>if(c.ev ρ).b=true then aE T a (s.ev ρ) (j7 (s.ev ρ) lr lo (gy (fun ρ'=>aE T k ρ' Q) Q)) else aE T b (s.ev ρ) (j7 (s.ev ρ) lr lo (gy (fun ρ'=>aE T k ρ' Q) Q))
 |.blockS s id lr lo a k,ρ,Q=>aE T a (s.ev ρ) (lg (s.ev ρ) id lr lo (gy (fun ρ'=>aE T k ρ' Q) Q))
 |.brk s c k,ρ,Q=>aH T c (s.ev ρ) (gy (fun ρ'=>aE T k ρ' Q) Q)
def nw:PI→Bool
 |.setR ..|.setO ..|.chk _=>true
 |_=>false
def dF:PC→Bool
 |.loop ..=>false
 |.each ..=>false
 |.meach ..=>false
 |.seq a b=>dF a&&dF b
 |.ite _ _ _ a b=>dF a&&dF b
 |.block _ _ _ a=>dF a
 |.is l=>l.all nw
 |_=>true
abbrev Kn:=bZ→SE→PT
abbrev Kx:=bZ→Nat→SE→PT
def mP:List PI→bZ→SE→Kn→PT
 |[],ae,s,k=>k ae s
 |.setR t e::l,ae,s,k=>mP l ae (s.setR t (e.sub' ae s)) k
 |.setO t e::l,ae,s,k=>mP l ae (s.setO t (e.sub' ae s)) k
 |.chk e::l,ae,s,k=>
  match uJ ae (e.sub' ae s) with
  |some true=>mP l ae s k
  |_=>.chk (e.sub' ae s) (mP l ((e.sub' ae s,true)::ae) s k)
 |.call gs dst f args::l,ae,s,k=>.call s gs dst f (PE.subs' ae s args) (mP l [] .id k)
 |.callc gs dst e args::l,ae,s,k=>.callc s gs dst (e.sub' ae s) (PE.subs' ae s args) (mP l [] .id k)
 |.mcall j f args::l,ae,s,k=>.mcall s j f (PE.subs' ae s args) (mP l [] .id k)
def SE.merge (s:SE)(ae:bZ)(lr lo:List Nat)(c:PE)(a b:SE):SE:=⟨lr.map (fun t=>(t,rO ae c (a.getR t) (b.getR t)))++s.r,lo.map (fun t=>(t,rO ae c (a.getO t) (b.getO t)))++s.o⟩
def oP:List PI→bZ→SE→Option SE
 |[],_,s=>some s
 |.setR t e::l,ae,s=>oP l ae (s.setR t (e.sub' ae s))
 |.setO t e::l,ae,s=>oP l ae (s.setO t (e.sub' ae s))
 |_::_,_,_=>none
def plain:PC→bZ→SE→Option SE
 |.skip,_,s=>some s
 |.is l,ae,s=>oP l ae s
 |.seq a b,ae,s=>(plain a ae s).bind fun s=>plain b ae s
 |.ite c lr lo a b,ae,s=>(plain a ae s).bind fun sa=>(plain b ae s).map fun sb=>s.merge ae lr lo (c.sub' ae s) sa sb
 |_,_,_=>none
def Z6:PC→Bool
 |.loop ..=>true
 |_=>false
def sx:PC→bZ→SE→Kn→Kx→PT
 |.skip,ae,s,k,_=>k ae s
 |.is l,ae,s,k,_=>mP l ae s k
 |.seq a b,ae,s,k,kx=>sx a ae s (fun ae s=>sx b ae s k kx) kx
 |.ite c lr lo a b,ae,s,k,kx=>
  match uJ ae (c.sub' ae s) with
  |some true=>bif dF a then sx a ae s (fun ae s'=>k ae (s.join lr lo s')) kx else .iteS s (c.sub' ae s) lr lo (sx a [] .id (fun _ s=>.next s) (fun _ id s=>.exit id s)) (sx b [] .id (fun _ s=>.next s) (fun _ id s=>.exit id s)) (k [] .id)
  |some false=>bif dF b then sx b ae s (fun ae s'=>k ae (s.join lr lo s')) kx else .iteS s (c.sub' ae s) lr lo (sx a [] .id (fun _ s=>.next s) (fun _ id s=>.exit id s)) (sx b [] .id (fun _ s=>.next s) (fun _ id s=>.exit id s)) (k [] .id)
  |none=>
   match plain a ae s,plain b ae s with
   |some sa,some sb=>k ae (s.merge ae lr lo (c.sub' ae s) sa sb)
   |_,_=>
   bif dF a&&dF b then
    .ite (c.sub' ae s) (sx a ((c.sub' ae s,true)::ae) s (fun ae s'=>k ae (s.join lr lo s')) kx) (sx b ((c.sub' ae s,false)::ae) s (fun ae s'=>k ae (s.join lr lo s')) kx)
   else .iteS s (c.sub' ae s) lr lo (sx a [] .id (fun _ s=>.next s) (fun _ id s=>.exit id s)) (sx b [] .id (fun _ s=>.next s) (fun _ id s=>.exit id s)) (k [] .id)
 |.block id lr lo a,ae,s,k,kx=>
  bif dF a then sx a ae s (fun ae s'=>k ae (s.join lr lo s')) (fun ae bV s'=>bif Nat.beq bV id then k ae (s.join lr lo s') else kx ae bV s')
  else bif Z6 a then .brk s (.block id lr lo a) (k [] .id)
  else .blockS s id lr lo (sx a [] .id (fun _ s=>.next s) (fun _ id s=>.exit id s)) (k [] .id)
 |.loop lr lo a,_,s,k,_=>.brk s (.loop lr lo a) (k [] .id)
 |.each e ps lo rt a,_,s,k,_=>.brk s (.each e ps lo rt a) (k [] .id)
 |.meach J ps cY lo a,_,s,k,_=>.brk s (.meach J ps cY lo a) (k [] .id)
 |.exit id,ae,s,_,kx=>kx ae id s
 |.ret e,ae,s,_,_=>.ret (e.sub' ae s)
theorem bZ.ok_nil (ρ:Env):bZ.ok [] ρ:=fun _ h=>nomatch h
theorem bZ.ok_cons {ae:bZ}{ρ:Env}{e:PE}{b:Bool}(h:ae.ok ρ)(he:(e.ev ρ).b=b):bZ.ok ((e,b)::ae) ρ:=fun x hx=>by
 rcases di.1 hx with e'|hx
 ·rw[e'];exact he
 ·exact h x hx
theorem qu {T:cD}{Q:Out→Prop}{K:Env→Prop}{k:Kn}:∀{l:List PI} {ae:bZ} {s:SE} {ρ:Env},ae.ok ρ→aE T (mP l ae s k) ρ Q→
 (∀ρ' ae s,(l.all nw=true→ρ'=ρ)→ae.ok ρ'→aE T (k ae s) ρ' Q→K (s.ev ρ'))→gz T l (s.ev ρ) K
 |[],ae,s,ρ,ha,h,hk=>hk ρ ae s (fun _=>rfl) ha h
 |.setR t e::l,ae,s,ρ,ha,h,hk=>by
  simp only[gz];rw[←PE.sub_ev ha s e,←SE.setR_ev];exact qu ha h fun ρ' ae s hp=>hk ρ' ae s fun hl=>hp (by simpa [nw] using hl)
 |.setO t e::l,ae,s,ρ,ha,h,hk=>by
  simp only[gz];rw[←PE.sub_ev ha s e,←SE.setO_ev];exact qu ha h fun ρ' ae s hp=>hk ρ' ae s fun hl=>hp (by simpa [nw] using hl)
 |.chk e::l,ae,s,ρ,ha,h,hk=>by
  simp only[gz];rw[←PE.sub_ev ha s e];simp only[mP] at h;split at h
  ·rename_i ht;exact⟨xo ha ht,qu ha h fun ρ' ae s hp=>hk ρ' ae s fun hl=>hp (by simpa [nw] using hl)⟩
  ·exact⟨h.1,qu (bZ.ok_cons ha h.1) h.2 fun ρ' ae s hp=>hk ρ' ae s fun hl=>hp (by simpa [nw] using hl)⟩
 |.call gs dst f args::l,ae,s,ρ,ha,h,hk=>by
  simp only[gz];simp only[mP,aE,PE.subs_ev ha,PE.sub_ev ha] at h;have br:∀{ρ0:Env},∀ρ' ae s,(l.all nw=true→ρ'=ρ0)→ae.ok ρ'→aE T (k ae s) ρ' Q→K (s.ev ρ'):=fun ρ' ae s _=>hk ρ' ae s fun hl=>by simp[nw] at hl
  split at h
  ·rename_i hg;rw[if_pos hg];obtain⟨d,hd,h⟩:=h;exact⟨d,hd,qu (s:=.id) (bZ.ok_nil _) h br⟩
  ·rename_i hg;rw[if_neg hg];exact qu (s:=.id) (bZ.ok_nil _) h br
 |.callc gs dst e args::l,ae,s,ρ,ha,h,hk=>by
  simp only[gz];simp only[mP,aE,PE.subs_ev ha,PE.sub_ev ha] at h;have br:∀{ρ0:Env},∀ρ' ae s,(l.all nw=true→ρ'=ρ0)→ae.ok ρ'→aE T (k ae s) ρ' Q→K (s.ev ρ'):=fun ρ' ae s _=>hk ρ' ae s fun hl=>by simp[nw] at hl
  split at h
  ·rename_i hg;rw[if_pos hg];obtain⟨f,caps,d,he,hd,h⟩:=h;exact⟨f,caps,d,he,hd,qu (s:=.id) (bZ.ok_nil _) h br⟩
  ·rename_i hg;rw[if_neg hg];exact qu (s:=.id) (bZ.ok_nil _) h br
 |.mcall j f args::l,ae,s,ρ,ha,h,hk=>by
  simp only[gz];simp only[mP,aE,PE.subs_ev ha,PE.sub_ev ha] at h;have br:∀{ρ0:Env},∀ρ' ae s,(l.all nw=true→ρ'=ρ0)→ae.ok ρ'→aE T (k ae s) ρ' Q→K (s.ev ρ'):=fun ρ' ae s _=>hk ρ' ae s fun hl=>by simp[nw] at hl
  obtain⟨d,hd,h⟩:=h;exact⟨d,hd,qu (s:=.id) (bZ.ok_nil _) h br⟩
theorem SE.merge_ev {ae:bZ}{ρ:Env}(h:ae.ok ρ)(s a b:SE)(lr lo:List Nat)(c:PE):(s.merge ae lr lo c a b).ev ρ=(s.ev ρ).join lr lo (if(c.ev ρ).b=true then a.ev ρ else b.ev ρ):=by
 have h1:∀u,((s.merge ae lr lo c a b).getR u).ev ρ=((s.ev ρ).join lr lo (if(c.ev ρ).b=true then a.ev ρ else b.ev ρ)).r u:=by
  intro u;rw[Env.join_r];have e:bP (s.merge ae lr lo c a b).r u=if u∈lr then some (rO ae c (a.getR u) (b.getR u)) else bP s.r u:=wq lr;have e2:(s.merge ae lr lo c a b).getR u=if u∈lr then rO ae c (a.getR u) (b.getR u) else s.getR u:=by
   unfold SE.getR;rw[e];by_cases h:u∈lr<;>simp[h,SE.getR]
  rw[e2];by_cases hu:u∈lr
  ·simp only[hu,if_true,QW h,PE.ev];cases hc:(c.ev ρ).b<;>simp[SE.ev]
  ·simp only[hu,if_false];rfl
 have h2:∀u,((s.merge ae lr lo c a b).getO u).ev ρ=((s.ev ρ).join lr lo (if(c.ev ρ).b=true then a.ev ρ else b.ev ρ)).o u:=by
  intro u;rw[Env.join_o];have e:bP (s.merge ae lr lo c a b).o u=if u∈lo then some (rO ae c (a.getO u) (b.getO u)) else bP s.o u:=wq lo;have e2:(s.merge ae lr lo c a b).getO u=if u∈lo then rO ae c (a.getO u) (b.getO u) else s.getO u:=by
   unfold SE.getO;rw[e];by_cases h:u∈lo<;>simp[h,SE.getO]
  rw[e2];by_cases hu:u∈lo
  ·simp only[hu,if_true,QW h,PE.ev];cases hc:(c.ev ρ).b<;>simp[SE.ev]
  ·simp only[hu,if_false];rfl
 have e1:(fun u=>((s.merge ae lr lo c a b).getR u).ev ρ)=((s.ev ρ).join lr lo (if(c.ev ρ).b=true then a.ev ρ else b.ev ρ)).r:=funext h1;have e2:(fun u=>((s.merge ae lr lo c a b).getO u).ev ρ)=((s.ev ρ).join lr lo (if(c.ev ρ).b=true then a.ev ρ else b.ev ρ)).o:=funext h2;show Env.mk _ _=_;rw[e1,e2]
theorem QY {T:cD}{ae:bZ}{ρ:Env}(ha:ae.ok ρ):∀{l:List PI} {s s':SE},oP l ae s=some s'→∀{K:Env→Prop},K (s'.ev ρ)→gz T l (s.ev ρ) K
 |[],s,s',h,K,hk=>by simp only[oP,bp] at h;subst h;exact hk
 |.setR t e::l,s,s',h,K,hk=>by simp only[gz];rw[←PE.sub_ev ha s e,←SE.setR_ev];exact QY (l:=l) ha (show oP l ae _=some s' from h) hk
 |.setO t e::l,s,s',h,K,hk=>by simp only[gz];rw[←PE.sub_ev ha s e,←SE.setO_ev];exact QY (l:=l) ha (show oP l ae _=some s' from h) hk
 |.chk _::_,_,_,h,_,_=>by simp[oP] at h
 |.call ..::_,_,_,h,_,_=>by simp[oP] at h
 |.callc ..::_,_,_,h,_,_=>by simp[oP] at h
 |.mcall ..::_,_,_,h,_,_=>by simp[oP] at h
theorem aqz {T:cD}{ae:bZ}{ρ:Env}(ha:ae.ok ρ):∀(c:PC) {s s':SE},plain c ae s=some s'→∀{Q:Out→Prop},Q (.next (s'.ev ρ))→aH T c (s.ev ρ) Q:=by
 intro c
 induction c with
 |skip=>intro s s' h Q hq;simp only[plain,bp] at h;subst h;exact .skip hq
 |is l=>intro s s' h Q hq;exact .is (QY ha h hq)
 |seq a b bL dW=>
  intro s s' h Q hq;simp only[plain,aB] at h;obtain⟨s1,h1,h2⟩:=h;exact .seq (bL h1 (dW h2 hq))
 |ite c lr lo a b bL dW=>
  intro s s' h Q hq;simp only[plain,aB,aK] at h;obtain⟨sa,h1,sb,h2,rfl⟩:=h;rw[SE.merge_ev ha,PE.sub_ev ha] at hq;refine .ite ?_;split
  ·rename_i hc;rw[if_pos hc] at hq;exact bL h1 hq
  ·rename_i hc;rw[if_neg hc] at hq;exact dW h2 hq
 |_=>intro s s' h;simp[plain] at h
theorem Lf {T:cD}:∀(c:PC) {ae:bZ} {s:SE} {k:Kn} {kx:Kx} {ρ:Env} {Q Q':Out→Prop},ae.ok ρ→aE T (sx c ae s k kx) ρ Q→
 (∀ρ' ae s,(dF c=true→ρ'=ρ)→ae.ok ρ'→aE T (k ae s) ρ' Q→Q' (.next (s.ev ρ')))→
 (∀ρ' ae id s,(dF c=true→ρ'=ρ)→ae.ok ρ'→aE T (kx ae id s) ρ' Q→Q' (.exit id (s.ev ρ')))→(dF c=false→∀id ρ',Q (.exit id ρ')→Q' (.exit id ρ'))→(∀d,Q (.ret d)→Q' (.ret d))→aH T c (s.ev ρ) Q':=by
 intro c;have alone:∀(a:PC),(∀{ae:bZ} {s:SE} {k:Kn} {kx:Kx} {ρ:Env} {Q Q':Out→Prop},ae.ok ρ→aE T (sx a ae s k kx) ρ Q→
  (∀ρ' ae s,(dF a=true→ρ'=ρ)→ae.ok ρ'→aE T (k ae s) ρ' Q→Q' (.next (s.ev ρ')))→
  (∀ρ' ae id s,(dF a=true→ρ'=ρ)→ae.ok ρ'→aE T (kx ae id s) ρ' Q→Q' (.exit id (s.ev ρ')))→(dF a=false→∀id ρ',Q (.exit id ρ')→Q' (.exit id ρ'))→(∀d,Q (.ret d)→Q' (.ret d))→aH T a (s.ev ρ) Q')→
  ∀{ρ:Env} {Q:Out→Prop},aE T (sx a [] .id (fun _ s=>.next s) (fun _ id s=>.exit id s)) ρ Q→aH T a ρ Q:=by
  intro a ih ρ Q h;exact ih (s:=.id) (bZ.ok_nil _) h (fun ρ' ae s _ _ h=>h) (fun ρ' ae id s _ _ h=>h) (fun _ _ _ h=>h) (fun _ h=>h)
 induction c with
 |skip=>intro ae s k kx ρ Q Q' ha h hk _ _ _;exact .skip (hk ρ ae s (fun _=>rfl) ha h)
 |is l=>intro ae s k kx ρ Q Q' ha h hk _ _ _;exact .is (qu (K:=fun ρ'=>Q' (.next ρ')) ha h hk)
 |seq a b bL dW=>
  intro ae s k kx ρ Q Q' ha h hk hx jG hr;refine .seq (bL ha h (Q':=gy (fun ρ'=>aH T b ρ' Q') Q') (fun ρ' ae s hp vA h'=>?_) (fun ρ' ae id s hp vA h'=>?_) (fun hp=>?_) hr)
  ·refine dW vA h' (fun ρ2 ae s fX=>hk ρ2 ae s fun hl=>?_) (fun ρ2 ae id s fX=>hx ρ2 ae id s fun hl=>?_) (fun fX=>?_) hr
   ·simp only[dF,ay] at hl;rw[fX hl.2,hp hl.1]
   ·simp only[dF,ay] at hl;rw[fX hl.2,hp hl.1]
   ·exact jG (by simp[dF,fX])
  ·exact hx ρ' ae id s (fun hl=>by simp only[dF,ay] at hl;exact hp hl.1) vA h'
  ·exact jG (by simp[dF,hp])
 |ite c lr lo a b bL dW=>
  intro ae s k kx ρ Q Q' ha h hk hx jG hr;have bU:((c.sub' ae s).ev ρ).b=(c.ev (s.ev ρ)).b:=by rw[PE.sub_ev ha]
  have struct:(dF a&&dF b)=false→aE T (.iteS s (c.sub' ae s) lr lo (sx a [] .id (fun _ s=>.next s) (fun _ id s=>.exit id s)) (sx b [] .id (fun _ s=>.next s) (fun _ id s=>.exit id s)) (k [] .id)) ρ Q→aH T (.ite c lr lo a b) (s.ev ρ) Q':=by
   intro C2 h;have oF:dF (.ite c lr lo a b)=false:=C2;simp only[aE,bU] at h
   have conv:∀x,j7 (s.ev ρ) lr lo (gy (fun ρ'=>aE T (k [] .id) ρ' Q) Q) x→j7 (s.ev ρ) lr lo Q' x:=by
      intro x db;cases x with
      |next ρ'=>exact hk _ [] .id (fun hl=>by rw[oF] at hl;cases hl) (bZ.ok_nil _) db
      |exit id ρ'=>exact jG oF id ρ' db
      |ret d=>exact hr d db
   refine .ite ?_;split at h
   ·rename_i hc;rw[if_pos hc];exact(alone a bL h).mono conv
   ·rename_i hc;rw[if_neg hc];exact(alone b dW h).mono conv
  have Z0:∀uY,uY.ok ρ→dF a=true→aE T (sx a uY s (fun ae s'=>k ae (s.join lr lo s')) kx) ρ Q→aH T a (s.ev ρ) (j7 (s.ev ρ) lr lo Q'):=by
   intro uY vA eU h';refine bL vA h' (fun ρ' ae s' hp m8 jY=>?_) (fun ρ' ae id s' hp m8 jY=>?_) (fun hp=>by rw[eU] at hp;cases hp) hr
   ·have e:=hp eU;subst e;show Q' (.next _);rw[←SE.join_ev];exact hk ρ' ae _ (fun _=>rfl) m8 jY
   ·have e:=hp eU;subst e;exact hx ρ' ae id s' (fun _=>rfl) m8 jY
  have aF:∀uY,uY.ok ρ→dF b=true→aE T (sx b uY s (fun ae s'=>k ae (s.join lr lo s')) kx) ρ Q→aH T b (s.ev ρ) (j7 (s.ev ρ) lr lo Q'):=by
   intro uY vA eU h';refine dW vA h' (fun ρ' ae s' hp m8 jY=>?_) (fun ρ' ae id s' hp m8 jY=>?_) (fun hp=>by rw[eU] at hp;cases hp) hr
   ·have e:=hp eU;subst e;show Q' (.next _);rw[←SE.join_ev];exact hk ρ' ae _ (fun _=>rfl) m8 jY
   ·have e:=hp eU;subst e;exact hx ρ' ae id s' (fun _=>rfl) m8 jY
  simp only[sx] at h;split at h
  ·rename_i ht;cases eU:dF a<;>simp only[eU,cond_true,cond_false] at h
   ·exact struct (by simp[eU]) h
   ·refine .ite ?_;rw[if_pos (by rw[←bU];exact xo ha ht)];exact Z0 ae ha eU h
  ·rename_i ht;cases eU:dF b<;>simp only[eU,cond_true,cond_false] at h
   ·exact struct (by simp[eU]) h
   ·refine .ite ?_;rw[if_neg (by rw[←bU,xo ha ht];simp)];exact aF ae ha eU h
  ·split at h
   ·rename_i sa sb hsa jE;have eu:plain (.ite c lr lo a b) ae s=some (s.merge ae lr lo (c.sub' ae s) sa sb):=by simp[plain,hsa,jE]
    exact aqz ha _ eu (hk ρ ae _ (fun _=>rfl) ha h)
   cases eU:(dF a&&dF b)<;>simp only[eU,cond_true,cond_false] at h
   ·exact struct eU h
   ·simp only[ay] at eU;simp only[aE] at h;refine .ite ?_;rw[←bU];split at h
    ·rename_i hc;rw[if_pos hc];exact Z0 _ (bZ.ok_cons ha hc) eU.1 h
    ·rename_i hc;rw[if_neg hc];exact aF _ (bZ.ok_cons ha (by simpa using hc)) eU.2 h
 |block id lr lo a bL=>
  intro ae s k kx ρ Q Q' ha h hk hx jG hr;simp only[sx] at h;cases eU:dF a<;>simp only[eU,cond_true,cond_false] at h
  ·have oF:dF (.block id lr lo a)=false:=eU;cases hl:Z6 a<;>simp only[hl,cond_true,cond_false] at h
   case true=>
        simp only[aE] at h;refine aH.mono h fun x db=>?_;cases x with
        |next ρ'=>exact hk _ [] .id (fun hl=>by rw[oF] at hl;cases hl) (bZ.ok_nil _) db
        |exit id ρ'=>exact jG oF id ρ' db
        |ret d=>exact hr d db
   simp only[aE] at h;refine .block ((alone a bL h).mono fun x db=>?_);cases x with
   |next ρ'=>exact hk _ [] .id (fun hl=>by rw[oF] at hl;cases hl) (bZ.ok_nil _) db
   |exit bV ρ'=>
    simp only[lg] at db ⊢;split
    ·rename_i e;rw[if_pos e] at db;exact hk _ [] .id (fun hl=>by rw[oF] at hl;cases hl) (bZ.ok_nil _) db
    ·rename_i e;rw[if_neg e] at db;exact jG oF bV ρ' db
   |ret d=>exact hr d db
  ·refine .block (bL ha h (fun ρ' ae s' hp m8 jY=>?_) (fun ρ' ae bV s' hp m8 jY=>?_) (fun hp=>by rw[eU] at hp;cases hp) hr)
   ·have e:=hp eU;subst e;show Q' (.next _);rw[←SE.join_ev];exact hk ρ' ae _ (fun _=>rfl) m8 jY
   ·have e:=hp eU;subst e;simp only[lg];by_cases cE:bV=id
    ·subst cE;simp only[lU,cond_true] at jY;rw[if_pos rfl,←SE.join_ev];exact hk ρ' ae _ (fun _=>rfl) m8 jY
    ·rw[fQ cE,cond_false] at jY;rw[if_neg cE];exact hx ρ' ae bV s' (fun _=>rfl) m8 jY
 |loop lr lo a bL=>
  intro ae s k kx ρ Q Q' ha h hk hx jG hr;simp only[sx,aE] at h;refine aH.mono h fun x db=>?_;cases x with
  |next ρ'=>exact hk _ [] .id (fun hl=>by cases hl) (bZ.ok_nil _) db
  |exit id ρ'=>exact jG rfl id ρ' db
  |ret d=>exact hr d db
 |each e ps lo rt a bL=>
  intro ae s k kx ρ Q Q' ha h hk hx jG hr;simp only[sx,aE] at h;refine aH.mono h fun x db=>?_;cases x with
  |next ρ'=>exact hk _ [] .id (fun hl=>by cases hl) (bZ.ok_nil _) db
  |exit id ρ'=>exact jG rfl id ρ' db
  |ret d=>exact hr d db
 |meach J ps cY lo a bL=>
  intro ae s k kx ρ Q Q' ha h hk hx jG hr;simp only[sx,aE] at h;refine aH.mono h fun x db=>?_;cases x with
  |next ρ'=>exact hk _ [] .id (fun hl=>by cases hl) (bZ.ok_nil _) db
  |exit id ρ'=>exact jG rfl id ρ' db
  |ret d=>exact hr d db
 |exit id=>intro ae s k kx ρ Q Q' ha h _ hx _ _;exact .exit (hx ρ ae id s (fun _=>rfl) ha h)
 |ret e=>
  intro ae s k kx ρ Q Q' ha h _ _ _ hr;simp only[sx,aE] at h;refine .ret (hr _ ?_);rw[PE.sub_ev ha] at h;exact h
def Lk.un (a b:Lk):Lk:=⟨Nat.lor a.r b.r,iT a.o b.o⟩
def bits (l:List Nat):Nat:=l.foldr (fun t m=>Nat.lor (gp t) m) 0
theorem Ng {l:List Nat}{t:Nat}(h:t∈l):aO (bits l) t=true:=by
 induction l with
 |nil=>cases h
 |cons x l ih=>
  show aO (Nat.lor (gp x) (bits l)) t=true;rw[fR];rcases di.1 h with e|h
  ·subst e;rw[pA];rfl
  ·rw[ih h,qF]
theorem We:∀{a b:List Nat} {x:Nat},x∈iT a b↔x∈a∨x∈b
 |[],b,x=>by simp[iT]
 |y::a,b,x=>by
  have ih:=We (a:=a) (b:=bif fu b y then b else y::b) (x:=x);show x∈iT a _↔_;rw[ih];cases hb:fu b y with
  |true=>simp only[cond_true,di];have:=(p6 b y).1 hb;constructor
         ·rintro(h|h);exact .inl (.inr h);exact .inr h
         ·rintro((rfl|h)|h);exact .inr this;exact .inl h;exact .inr h
  |false=>simp only[cond_false,di];constructor
          ·rintro(h|h|h);exact .inl (.inr h);exact .inl (.inl h);exact .inr h
          ·rintro((h|h)|h);exact .inr (.inl h);exact .inl h;exact .inr (.inr h)
def Lk.Le (a K:Lk):Prop:=(∀t,aO a.r t=true→aO K.r t=true)∧∀j,j∈a.o→j∈K.o
theorem Lk.le_l (a b:Lk):a.Le (a.un b):=⟨fun t h=>by simp only[Lk.un,fR,h,Be],fun j h=>We.2 (.inl h)⟩
theorem Lk.le_r (a b:Lk):b.Le (a.un b):=⟨fun t h=>by simp only[Lk.un,fR,h,qF],fun j h=>We.2 (.inr h)⟩
theorem Lk.Le.trans {a b c:Lk}(h:a.Le b)(k:b.Le c):a.Le c:=⟨fun t ht=>k.1 t (h.1 t ht),fun j hj=>k.2 j (h.2 j hj)⟩
theorem Alike.le {a K:Lk}{ρ ρ':Env}(h:Alike K ρ ρ')(k:a.Le K):Alike a ρ ρ':=⟨fun t ht=>h.r t (k.1 t ht),fun j hj=>h.o j (k.2 j hj)⟩
theorem Lk.Le.of_un {a b K:Lk}(h:(a.un b).Le K):a.Le K∧b.Le K:=⟨(Lk.le_l a b).trans h,(Lk.le_r a b).trans h⟩
theorem Alike.setR {K:Lk}{ρ ρ':Env}(h:Alike K ρ ρ')(t:Nat)(d:D):Alike K (ρ.setR t d) (ρ'.setR t d):=⟨fun u hu=>by rw[Env.setR_r,Env.setR_r];split;rfl;exact h.r u hu,h.o⟩
theorem Alike.setO {K:Lk}{ρ ρ':Env}(h:Alike K ρ ρ')(t:Nat)(d:D):Alike K (ρ.setO t d) (ρ'.setO t d):=⟨h.r,fun u hu=>by rw[Env.setO_o,Env.setO_o];split;rfl;exact h.o u hu⟩
theorem Alike.join {K:Lk}{ρ ρ' η η':Env}(h:Alike K ρ ρ')(k:Alike K η η')(lr lo:List Nat):Alike K (ρ.join lr lo η) (ρ'.join lr lo η'):=
 ⟨fun u hu=>by rw[Env.join_r,Env.join_r];split;exact k.r u hu;exact h.r u hu,fun u hu=>by rw[Env.join_o,Env.join_o];split;exact k.o u hu;exact h.o u hu⟩
theorem Q0 {f g:Nat→D}{u:Nat}(h:g u=f u):∀(ts:List Nat) (xs:List D),putL g ts xs u=putL f ts xs u
 |[],xs=>by rw[J3,J3];exact h
 |t::ts,[]=>by simp only[putL];exact h
 |t::ts,x::xs=>by rw[J2,J2];split;rfl;exact Q0 h ts xs
theorem Alike.put {K:Lk}{ρ ρ':Env}(h:Alike K ρ ρ')(lr lo:List Nat)(vr vo:List D):Alike K (ρ.put lr vr lo vo) (ρ'.put lr vr lo vo):=⟨fun u hu=>Q0 (h.r u hu) lr vr,fun u hu=>Q0 (h.o u hu) lo vo⟩
def PI.lkw:PI→Lk
 |.setR t e=>e.lk.un ⟨gp t,[]⟩
 |.setO j e=>e.lk.un ⟨0,[j]⟩
 |.chk e=>e.lk
 |.call gs dst f aa=>(PI.call gs dst f aa).lk.un ⟨gp dst,[]⟩
 |.callc gs dst e aa=>(PI.callc gs dst e aa).lk.un ⟨gp dst,[]⟩
 |.mcall j f aa=>(PI.mcall j f aa).lk.un ⟨0,[j]⟩
def PC.lk:PC→Lk
 |.skip=>.none
 |.exit _=>.none
 |.is l=>l.foldr (fun p k=>p.lkw.un k) .none
 |.seq a b=>(PC.lk a).un (PC.lk b)
 |.ite c _ _ a b=>c.lk.un ((PC.lk a).un (PC.lk b))
 |.block _ _ _ a=>PC.lk a
 |.loop lr lo a=>(⟨bits lr,lo⟩:Lk).un (PC.lk a)
 |.ret e=>e.lk
 |.each e _ lo rt a=>e.lk.un ((match rt with|some e=>e.lk|none=>.none).un ((⟨0,lo⟩:Lk).un (PC.lk a)))
 |.meach J _ _ lo a=>(⟨0,J::lo⟩:Lk).un (PC.lk a)
structure Off (K:Lk) (b η η':Env):Prop where
 al:Alike K η η'
 r:∀t,aO K.r t=false→η'.r t=b.r t
 o:∀j,j∉K.o→η'.o j=b.o j
def sK (K:Lk)(b:Env):Out→Out→Prop
 |.next η,x=>∃η',x=.next η'∧Off K b η η'
 |.exit i η,x=>∃η',x=.exit i η'∧Off K b η η'
 |.ret d,x=>x=.ret d
theorem Off.uniq {K:Lk}{b η η' η2:Env}(h:Off K b η η')(k:Off K b η η2):η2=η':=by
 have h1:∀t,η2.r t=η'.r t:=fun t=>by
  cases hb:aO K.r t with
  |true=>rw[k.al.r t hb,h.al.r t hb]
  |false=>rw[k.r t hb,h.r t hb]
 have h2:∀t,η2.o t=η'.o t:=fun t=>by
  by_cases hb:t∈K.o
  ·rw[k.al.o t hb,h.al.o t hb]
  ·rw[k.o t hb,h.o t hb]
 cases η2;cases η'
 congr
 ·exact funext h1
 ·exact funext h2
theorem sK.uniq {K:Lk}{b:Env}{x y z:Out}(h:sK K b x y)(k:sK K b x z):z=y:=by
 cases x with
 |next η=>obtain⟨a,rfl,h⟩:=h;obtain⟨c,rfl,k⟩:=k;rw[h.uniq k]
 |exit i η=>obtain⟨a,rfl,h⟩:=h;obtain⟨c,rfl,k⟩:=k;rw[h.uniq k]
 |ret d=>rw[h,k]
theorem Off.setR {K:Lk}{b η η':Env}(h:Off K b η η'){t:Nat}(ht:aO K.r t=true)(d:D):Off K b (η.setR t d) (η'.setR t d):=
 ⟨h.al.setR t d,fun u hu=>by rw[Env.setR_r,if_neg (fun e=>by rw[e,ht] at hu;cases hu)];exact h.r u hu,h.o⟩
theorem Off.setO {K:Lk}{b η η':Env}(h:Off K b η η'){t:Nat}(ht:t∈K.o)(d:D):Off K b (η.setO t d) (η'.setO t d):=
 ⟨h.al.setO t d,h.r,fun u hu=>by rw[Env.setO_o,if_neg (fun e=>hu (by rw[e];exact ht))];exact h.o u hu⟩
theorem Off.join {K:Lk}{b η η' ζ ζ':Env}(h:Off K b η η')(k:Off K b ζ ζ')(lr lo:List Nat):Off K b (η.join lr lo ζ) (η'.join lr lo ζ'):=
 ⟨h.al.join k.al lr lo,fun u hu=>by rw[Env.join_r];split;exact k.r u hu;exact h.r u hu,fun u hu=>by rw[Env.join_o];split;exact k.o u hu;exact h.o u hu⟩
theorem Q5 {f:Nat→D}{b:D}{u:Nat}(h:f u=b):∀(ts:List Nat) (xs:List D),u∉ts→putL f ts xs u=b
 |[],xs,_=>by rw[J3];exact h
 |t::ts,[],_=>by simp only[putL];exact h
 |t::ts,x::xs,hu=>by rw[J2,if_neg (fun e=>hu (by simp[e]))];exact Q5 h ts xs (fun e=>hu (by simp[e]))
theorem Off.put {K:Lk}{b η η':Env}(h:Off K b η η'){lr lo:List Nat}(hr:∀t,t∈lr→aO K.r t=true)(ho:∀t,t∈lo→t∈K.o)(vr vo:List D):Off K b (η.put lr vr lo vo) (η'.put lr vr lo vo):=
 ⟨h.al.put lr lo vr vo,fun u hu=>Q5 (h.r u hu) lr vr (fun e=>by rw[hr u e] at hu;cases hu),fun u hu=>Q5 (h.o u hu) lo vo (fun e=>hu (ho u e))⟩
theorem PI.run_off {Φ:aR}{K:Lk}{b ρ ρ' η:Env}{p:PI}(hp:p.lkw.Le K)(h:Off K b ρ ρ')(hr:p.run Φ ρ=some η):∃η',p.run Φ ρ'=some η'∧Off K b η η':=by
 have rz:p.lk.Le K:=by cases p<;>first|exact hp|exact hp.of_un.1
 rw[PI.run_eff,PI.eff_alike p (h.al.le rz)];rw[PI.run_eff] at hr;cases he:p.eff Φ ρ with
 |none=>rw[he] at hr;cases hr
 |some x=>
  rw[he] at hr;simp only[kj,bp] at hr;subst hr;refine⟨_,rfl,?_⟩;have hb:∀{t:Nat} {a:Lk},(a.un ⟨gp t,[]⟩).Le K→aO K.r t=true:=fun h=>h.of_un.2.1 _ (pA _);have ho:∀{t:Nat} {a:Lk},(a.un ⟨0,[t]⟩).Le K→t∈K.o:=fun h=>h.of_un.2.2 _ (by simp);cases p with
  |setR t e=>simp only[PI.eff,bp] at he;subst he;exact h.setR (hb hp) _
  |setO t e=>simp only[PI.eff,bp] at he;subst he;exact h.setO (ho hp) _
  |chk e=>simp only[PI.eff] at he;cases vC:(e.ev ρ).b<;>rw[vC] at he<;>cases he;exact h
  |call gs d f aa=>
   simp only[PI.eff] at he;cases vC:holds gs ρ<;>simp only[vC,cond_true,cond_false,bp,aK] at he
   ·subst he;exact h
   ·obtain⟨y,_,rfl⟩:=he;exact h.setR (hb hp) _
  |callc gs d e aa=>
   simp only[PI.eff] at he;cases vC:holds gs ρ<;>simp only[vC,cond_true,cond_false,bp] at he
   ·subst he;exact h
   ·split at he
    ·simp only[aK] at he;obtain⟨y,_,rfl⟩:=he;exact h.setR (hb hp) _
    ·cases he
  |mcall j f aa=>simp only[PI.eff,aK] at he;obtain⟨y,_,rfl⟩:=he;exact h.setO (ho hp) _
theorem PI.runs_off {Φ:aR}{K:Lk}{b:Env}:∀{l:List PI} {ρ ρ' η:Env},(l.foldr (fun p k=>p.lkw.un k) Lk.none).Le K→Off K b ρ ρ'→PI.runs Φ l ρ=some η→∃η',PI.runs Φ l ρ'=some η'∧Off K b η η'
 |[],ρ,ρ',η,_,h,hr=>by simp only[PI.runs,bp] at hr ⊢;subst hr;exact⟨_,rfl,h⟩
 |p::l,ρ,ρ',η,hl,h,hr=>by
  simp only[PI.runs,aB] at hr;obtain⟨ρ1,h1,h2⟩:=hr;obtain⟨ρ2,h3,h4⟩:=PI.run_off hl.of_un.1 h h1;obtain⟨η',h5,h6⟩:=PI.runs_off (l:=l) hl.of_un.2 h4 h2;exact⟨η',by simp only[PI.runs,h3,uU,h5],h6⟩
theorem wx {K:Lk}{b η η':Env}(h:Off K b η η'){lo:List Nat}(ho:∀t,t∈lo→t∈K.o):lo.map η'.o=lo.map η.o:=xE fun t ht=>h.al.o t (ho t ht)
theorem aaG {K:Lk}{b η η':Env}(h:Off K b η η'){lr:List Nat}(hr:∀t,t∈lr→aO K.r t=true):lr.map η'.r=lr.map η.r:=xE fun t ht=>h.al.r t (hr t ht)
theorem PC.ev_off {Φ:aR}{n:Nat}{K:Lk}:∀(c:PC),c.lk.Le K→∀{b ρ ρ':Env} {x:Out},Off K b ρ ρ'→c.ev Φ n ρ=some x→∃x',c.ev Φ n ρ'=some x'∧sK K b x x':=by
 intro c
 induction c with
 |skip=>intro _ b ρ ρ' x h hr;simp only[PC.ev,bp] at hr ⊢;subst hr;exact⟨_,rfl,_,rfl,h⟩
 |exit id=>intro _ b ρ ρ' x h hr;simp only[PC.ev,bp] at hr ⊢;subst hr;exact⟨_,rfl,_,rfl,h⟩
 |ret e=>intro hk B ρ ρ' x h hr;simp only[PC.ev,bp] at hr ⊢;subst hr;exact⟨_,rfl,by rw[PE.ev_alike e (h.al.le hk)];rfl⟩
 |is l=>
  intro hk B ρ ρ' x h hr;simp only[PC.ev,aK] at hr;obtain⟨η,h1,rfl⟩:=hr;obtain⟨η',h2,h3⟩:=PI.runs_off hk h h1;exact⟨.next η',by simp only[PC.ev,h2,kj],η',rfl,h3⟩
 |seq a b bL dW=>
  intro hk B ρ ρ' x h hr;simp only[PC.ev] at hr ⊢;cases ha:a.ev Φ n ρ with
  |none=>rw[ha] at hr;cases hr
  |some y=>
   obtain⟨y',h1,h2⟩:=bL hk.of_un.1 h ha;rw[ha] at hr;rw[h1];cases y with
   |next η=>obtain⟨η',rfl,h3⟩:=h2;exact dW hk.of_un.2 h3 hr
   |exit i η=>obtain⟨η',rfl,h3⟩:=h2;cases hr;exact⟨_,rfl,η',rfl,h3⟩
   |ret d=>cases h2;cases hr;exact⟨_,rfl,rfl⟩
 |ite c lr lo a b bL dW=>
  intro hk B ρ ρ' x h hr;have hc:(c.ev ρ').b=(c.ev ρ).b:=by rw[PE.ev_alike c (h.al.le hk.of_un.1)]
  have key:∀(d:PC),(∀{ρ ρ':Env} {x:Out},Off K B ρ ρ'→d.ev Φ n ρ=some x→∃x',d.ev Φ n ρ'=some x'∧sK K B x x')→(match d.ev Φ n ρ with|some (.next η)=>some (.next (ρ.join lr lo η))|x=>x)=some x→
      ∃x',(match d.ev Φ n ρ' with|some (.next η)=>some (.next (ρ'.join lr lo η))|x=>x)=some x'∧sK K B x x':=by
   intro d ih hr;cases ha:d.ev Φ n ρ with
   |none=>rw[ha] at hr;cases hr
   |some y=>
    obtain⟨y',h1,h2⟩:=ih h ha;rw[ha] at hr;rw[h1];cases y with
    |next η=>obtain⟨η',rfl,h3⟩:=h2;cases hr;exact⟨_,rfl,_,rfl,h.join h3 lr lo⟩
    |exit i η=>obtain⟨η',rfl,h3⟩:=h2;cases hr;exact⟨_,rfl,η',rfl,h3⟩
    |ret d=>cases h2;cases hr;exact⟨_,rfl,rfl⟩
  simp only[PC.ev,hc] at hr ⊢;cases hZ:(c.ev ρ).b<;>simp only[hZ,cond_true,cond_false] at hr ⊢
  ·exact key b (fun h1 h2=>dW hk.of_un.2.of_un.2 h1 h2) hr
  ·exact key a (fun h1 h2=>bL hk.of_un.2.of_un.1 h1 h2) hr
 |block id lr lo a bL=>
  intro hk B ρ ρ' x h hr;simp only[PC.ev] at hr ⊢;cases ha:a.ev Φ n ρ with
  |none=>rw[ha] at hr;cases hr
  |some y=>
   obtain⟨y',h1,h2⟩:=bL hk h ha;rw[ha] at hr;rw[h1];cases y with
   |next η=>obtain⟨η',rfl,h3⟩:=h2;cases hr;exact⟨_,rfl,_,rfl,h.join h3 lr lo⟩
   |exit i η=>
    obtain⟨η',rfl,h3⟩:=h2;simp only at hr ⊢;cases hb:Nat.beq i id<;>simp only[hb,cond_true,cond_false] at hr ⊢<;>cases hr
    ·exact⟨_,rfl,η',rfl,h3⟩
    ·exact⟨_,rfl,_,rfl,h.join h3 lr lo⟩
   |ret d=>cases h2;cases hr;exact⟨_,rfl,rfl⟩
 |loop lr lo a bL=>
  intro hk B ρ ρ' x h hr;have nj:∀t,t∈lr→aO K.r t=true:=fun t ht=>hk.of_un.1.1 t (Ng ht);have jf:∀t,t∈lo→t∈K.o:=fun t ht=>hk.of_un.1.2 t ht;have key:∀(m:Nat) (vr vo:List D),gP (a.ev Φ n) ρ lr lo m vr vo=some x→∃x',gP (a.ev Φ n) ρ' lr lo m vr vo=some x'∧sK K B x x':=by
   intro m
   induction m with
   |zero=>intro vr vo h;simp[gP] at h
   |succ m Pk=>
    intro vr vo hr;simp only[gP] at hr ⊢;cases ha:a.ev Φ n (ρ.put lr vr lo vo) with
    |none=>rw[ha] at hr;cases hr
    |some y=>
     obtain⟨y',h1,h2⟩:=bL hk.of_un.2 (h.put nj jf vr vo) ha;rw[ha] at hr;rw[h1];cases y with
     |next η=>obtain⟨η',rfl,h3⟩:=h2;simp only[wx h3 jf,aaG h3 nj];exact Pk _ _ hr
     |exit i η=>obtain⟨η',rfl,h3⟩:=h2;cases hr;exact⟨_,rfl,η',rfl,h3⟩
     |ret d=>cases h2;cases hr;exact⟨_,rfl,rfl⟩
  simp only[PC.ev] at hr ⊢;rw[wx h jf,aaG h nj];exact key n _ _ hr
 |each e ps lo rt a bL=>
  intro hk B ρ ρ' x h hr;obtain⟨bE,de⟩:=hk.of_un;obtain⟨de,pQ⟩:=de.of_un;obtain⟨pQ,Ou⟩:=pQ.of_un;have jf:∀t,t∈lo→t∈K.o:=fun t ht=>pQ.2 t ht;have key:∀(xs vo:List D),g8 (a.ev Φ n) ρ ps lo rt xs vo=some x→∃x',g8 (a.ev Φ n) ρ' ps lo rt xs vo=some x'∧sK K B x x':=by
   intro xs
   induction xs with
   |nil=>intro vo hr;simp only[g8,bp] at hr ⊢;subst hr;exact⟨_,rfl,_,rfl,h.put (fun _ h=>by cases h) jf _ _⟩
   |cons y xs iK=>
    intro vo hr;simp only[g8] at hr ⊢;cases ha:a.ev Φ n (ρ.put ps (partsOf ps y) lo vo) with
    |none=>rw[ha] at hr;cases hr
    |some z=>
     have iI:Off K (ρ'.put ps (partsOf ps y) lo vo) (ρ.put ps (partsOf ps y) lo vo) (ρ'.put ps (partsOf ps y) lo vo):=⟨h.al.put ps lo _ _,fun _ _=>rfl,fun _ _=>rfl⟩
     obtain⟨z',h1,h2⟩:=bL Ou iI ha;rw[ha] at hr;rw[h1];cases z with
     |next η=>obtain⟨η',rfl,h3⟩:=h2;simp only[wx h3 jf];exact iK _ hr
     |exit i η=>
      obtain⟨η',rfl,h3⟩:=h2;simp only[wx h3 jf] at hr ⊢;have hp:=h.put (lr:=[]) (fun _ h=>by cases h) jf [] (lo.map η.o);cases hb:Nat.beq i cL<;>simp only[hb,cond_true,cond_false] at hr ⊢
      ·cases hr;exact⟨_,rfl,_,rfl,hp⟩
      ·cases rt with
       |none=>cases hr
       |some e2=>cases hr;exact⟨_,rfl,by show Out.ret _=Out.ret _;rw[PE.ev_alike e2 (hp.al.le de)]⟩
     |ret d=>cases hr
  simp only[PC.ev] at hr ⊢;rw[PE.ev_alike e (h.al.le bE),wx h jf];exact key _ _ hr
 |meach J ps cY lo a bL=>
  intro hk B ρ ρ' x h hr;obtain⟨pQ,Ou⟩:=hk.of_un;have jf:∀t,t∈lo→t∈K.o:=fun t ht=>pQ.2 t (fj _ ht);have hJ:ρ'.o J=ρ.o J:=h.al.o J (pQ.2 J (fF ..));have key:∀(es:D) (xs done vo qA:List D),nv (a.ev Φ n) ρ J es ps cY lo xs done vo=some qA→nv (a.ev Φ n) ρ' J es ps cY lo xs done vo=some qA:=by
   intro es xs
   induction xs with
   |nil=>intro done vo qA h;exact h
   |cons y xs iK=>
    intro done vo qA hr;simp only[nv] at hr ⊢;cases ha:a.ev Φ n ((ρ.put ps (cY.map y.tget) lo vo).setO J (.tup [.list (done++[y]),es])) with
    |none=>rw[ha] at hr;cases hr
    |some z=>
     have iI:Off K ((ρ'.put ps (cY.map y.tget) lo vo).setO J (.tup [.list (done++[y]),es])) ((ρ.put ps (cY.map y.tget) lo vo).setO J (.tup [.list (done++[y]),es])) ((ρ'.put ps (cY.map y.tget) lo vo).setO J (.tup [.list (done++[y]),es])):=
          ⟨(h.al.put ps lo _ _).setO J _,fun _ _=>rfl,fun _ _=>rfl⟩
     obtain⟨z',h1,h2⟩:=bL Ou iI ha;rw[ha] at hr;rw[h1];cases z with
     |next η=>obtain⟨η',rfl,h3⟩:=h2;simp only[wx h3 jf];exact iK _ _ _ hr
     |exit i η=>cases hr
     |ret d=>cases hr
  simp only[PC.ev,Aw] at hr;obtain⟨vo,⟨h1,h2⟩,rfl⟩:=hr;refine⟨.next (ρ'.put [] [] lo vo),?_,_,rfl,h.put (fun _ h=>by cases h) jf _ _⟩;simp only[PC.ev,Aw];refine⟨vo,⟨by rw[hJ];exact h1,fun ys hy=>?_⟩,rfl⟩;rw[hJ] at hy ⊢;rw[wx h jf];exact key _ _ _ _ _ (h2 ys hy)
def m0:List Nat→PC→Bool
 |l,.exit id=>fu l id
 |l,.seq a b=>m0 l a&&m0 l b
 |l,.ite _ _ _ a b=>m0 l a&&m0 l b
 |l,.block id _ _ a=>m0 (id::l) a
 |l,.loop _ _ a=>m0 l a
 |l,.each _ _ _ _ a=>m0 (cL::l) a
 |_,_=>true
theorem aiJ {Φ:aR}{n:Nat}:∀(c:PC) {l:List Nat},m0 l c=true→∀{ρ:Env} {i:Nat} {η:Env},c.ev Φ n ρ=some (.exit i η)→i∈l:=by
 intro c
 induction c with
 |skip=>intro l _ ρ i η h;simp[PC.ev] at h
 |exit id=>intro l hl ρ i η h;simp only[PC.ev,bp] at h;injection h with h1 h2;subst h1;exact(p6 _ _).1 hl
 |ret e=>intro l _ ρ i η h;simp[PC.ev] at h
 |is _=>intro l _ ρ i η h;simp[PC.ev] at h
 |seq a b bL dW=>
  intro l hl ρ i η h;simp only[m0,ay] at hl;simp only[PC.ev] at h;split at h
  ·exact dW hl.2 h
  ·exact bL hl.1 h
 |ite c lr lo a b bL dW=>
  intro l hl ρ i η h;simp only[m0,ay] at hl;simp only[PC.ev] at h;cases hc:(c.ev ρ).b<;>simp only[hc,cond_true,cond_false] at h
  ·split at h
   ·cases h
   ·exact dW hl.2 h
  ·split at h
   ·cases h
   ·exact bL hl.1 h
 |block id lr lo a bL=>
  intro l hl ρ i η h;simp only[PC.ev] at h;split at h
  ·cases h
  ·rename_i bV ρ2 ha;cases hb:Nat.beq bV id<;>simp only[hb,cond_true,cond_false] at h<;>cases h;rcases di.1 (bL hl ha) with e|e
   ·subst e;rw[lU] at hb;cases hb
   ·exact e
  ·rename_i h1 h2;exact absurd h (h2 _ _)
 |loop lr lo a bL=>
  intro l hl ρ i η h;have key:∀(m:Nat) (vr vo:List D),gP (a.ev Φ n) ρ lr lo m vr vo=some (.exit i η)→i∈l:=by
   intro m
   induction m with
   |zero=>intro vr vo h;simp[gP] at h
   |succ m Pk=>
    intro vr vo h;simp only[gP] at h;split at h
    ·exact Pk _ _ h
    ·exact bL hl h
  exact key _ _ _ h
 |each e ps lo rt a bL=>
  intro l hl ρ i η h;have key:∀(xs vo:List D),g8 (a.ev Φ n) ρ ps lo rt xs vo=some (.exit i η)→i∈l:=by
   intro xs
   induction xs with
   |nil=>intro vo h;simp[g8] at h
   |cons x xs iK=>
    intro vo h;simp only[g8] at h;split at h
    ·exact iK _ h
    ·rename_i bV ρ2 ha;cases hb:Nat.beq bV cL<;>simp only[hb,cond_true,cond_false] at h
     ·injection h with h;injection h with h1 h2;subst h1
      rcases di.1 (bL hl ha) with e|e
      ·subst e;rw[lU] at hb;cases hb
      ·exact e
     ·cases rt<;>simp at h
    ·cases h
  exact key _ _ h
 |meach J ps cY lo a _=>
  intro l _ ρ i η h;simp only[PC.ev,Aw] at h;obtain⟨vo,_,h⟩:=h;cases h
def Z3 (t:Nat):PE→Bool
 |.r u=>Nat.beq u t
 |_=>false
def Z4 (t:Nat):PE→Bool
 |.o u=>Nat.beq u t
 |_=>false
def fk (nm:Nat→PE→Bool)(p:Nat→Bool):List Nat→List (Nat×PE)→List (Nat×PE)
 |_,[]=>[]
 |seen,x::l=>bif p x.1&& !fu seen x.1 then(bif nm x.1 x.2 then fk nm p (x.1::seen) l else x::fk nm p (x.1::seen) l) else fk nm p seen l
theorem Ig {nm:Nat→PE→Bool}{p:Nat→Bool}:∀{l:List (Nat×PE)} {seen:List Nat} {t:Nat},fu seen t=true→bP (fk nm p seen l) t=none
 |[],_,_,_=>rfl
 |x::l,seen,t,h=>by
  have h':fu (x.1::seen) t=true:=by rw[p6] at h ⊢;exact fj _ h
  simp only[fk];cases hb:(p x.1&& !fu seen x.1) with
  |false=>exact Ig h
  |true=>
   simp only[cond_true];cases nm x.1 x.2 with
   |true=>exact Ig h'
   |false=>
    simp only[cond_false,bP];have:Nat.beq x.1 t=false:=by
      cases e:Nat.beq x.1 t with
      |false=>rfl
      |true=>rw[dj e,h] at hb;simp at hb
    rw[this];exact Ig h'
theorem Cq {nm:Nat→PE→Bool}{p:Nat→Bool}{dflt:Nat→PE}(cE:∀t e,nm t e=true→e=dflt t):∀{l:List (Nat×PE)} {seen:List Nat} {t:Nat},p t=true→fu seen t=false→
 (match bP (fk nm p seen l) t with|some e=>e|none=>dflt t)=(match bP l t with|some e=>e|none=>dflt t)
 |[],_,_,_,_=>rfl
 |x::l,seen,t,hp,hs=>by
  simp only[fk,bP];cases e:Nat.beq x.1 t with
  |true=>
   have e':=dj e;rw[e',hp,hs];simp only[Bool.not_false,Bool.and_self,cond_true];cases hi:nm t x.2 with
   |true=>simp only[cond_true];rw[Ig (by rw[p6];exact fF ..)];exact(cE _ _ hi).symm
   |false=>simp only[cond_false,bP,e,cond_true]
  |false=>
   simp only[cond_false];cases hb:(p x.1&& !fu seen x.1) with
   |false=>exact Cq cE hp hs
   |true=>
    have dV:fu (x.1::seen) t=false:=by
      cases hm:fu (x.1::seen) t with
      |false=>rfl
      |true=>
       rcases di.1 ((p6 _ _).1 hm) with h|h
       ·rw[h,lU] at e;cases e
       ·rw[(p6 _ _).2 h] at hs;cases hs
    simp only[cond_true];cases nm x.1 x.2 with
    |true=>exact Cq cE hp dV
    |false=>simp only[cond_false,bP,e];exact Cq cE hp dV
def SE.cut (s:SE)(k:Lk):SE:=⟨fk Z3 (aO k.r) [] s.r,fk Z4 (fu k.o) [] s.o⟩
def Pr (l:List (Nat×PE)):Lk:=l.foldr (fun x k=>x.2.lk.un k) .none
def SE.lks (s:SE):Lk:=(Pr s.r).un (Pr s.o)
theorem Ps:∀{l:List (Nat×PE)} {t:Nat} {e:PE},bP l t=some e→e.lk.Le (Pr l)
 |[],_,_,h=>by cases h
 |x::l,t,e,h=>by
  simp only[bP] at h;cases hb:Nat.beq x.1 t<;>simp only[hb,cond_true,cond_false] at h
  ·exact(Ps h).trans (Lk.le_r _ _)
  ·cases h;exact Lk.le_l _ _
theorem SE.cut_al {s:SE}{L:Lk}{ρ1 ρ2:Env}(h:Alike (L.un (s.cut L).lks) ρ1 ρ2):Alike L ((s.cut L).ev ρ1) (s.ev ρ2):=by
 have hL:=h.le (Lk.le_l _ _);have hs:=h.le (Lk.le_r _ _);constructor
 ·intro t ht;show(s.getR t).ev ρ2=((s.cut L).getR t).ev ρ1;have e:(s.cut L).getR t=s.getR t:=Cq (dflt:=.r) (fun t e he=>by unfold Z3 at he;split at he;rw[dj he];cases he) ht rfl;rw[←e];cases hl:bP (s.cut L).r t with
  |none=>have:(s.cut L).getR t=.r t:=by unfold SE.getR;rw[hl]
         rw[this];exact hL.r t ht
  |some x=>have:(s.cut L).getR t=x:=by unfold SE.getR;rw[hl]
           rw[this];exact PE.ev_alike x (hs.le ((Ps hl).trans (Lk.le_l _ _)))
 ·intro t ht;show(s.getO t).ev ρ2=((s.cut L).getO t).ev ρ1;have e:(s.cut L).getO t=s.getO t:=Cq (dflt:=.o) (fun t e he=>by unfold Z4 at he;split at he;rw[dj he];cases he) ((p6 _ _).2 ht) rfl;rw[←e];cases hl:bP (s.cut L).o t with
  |none=>have:(s.cut L).getO t=.o t:=by unfold SE.getO;rw[hl]
         rw[this];exact hL.o t ht
  |some x=>have:(s.cut L).getO t=x:=by unfold SE.getO;rw[hl]
           rw[this];exact PE.ev_alike x (hs.le ((Ps hl).trans (Lk.le_r _ _)))
structure LC where
 next:Lk
 ov:List (Nat×Lk)
def LC.all (c:LC):Lk:=c.ov.foldr (fun x k=>x.2.un k) .none
def L8 (c:LC)(Q1 Q2:Out→Prop):Prop:=
 (∀ρ1 ρ2,Alike c.next ρ1 ρ2→Q1 (.next ρ1)→Q2 (.next ρ2))∧(∀id k ρ1 ρ2,bP c.ov id=some k→Alike k ρ1 ρ2→Q1 (.exit id ρ1)→Q2 (.exit id ρ2))∧∀d,Q1 (.ret d)→Q2 (.ret d)
def fy:LC→PT→Option (PT×Lk)
 |c,.next s=>some (.next (s.cut c.next),c.next.un (s.cut c.next).lks)
 |c,.exit id s=>(bP c.ov id).map fun k=>(.exit id (s.cut k),k.un (s.cut k).lks)
 |_,.ret e=>some (.ret e,e.lk)
 |c,.chk e k=>(fy c k).map fun r=>(.chk e r.1,e.lk.un r.2)
 |c,.ite e a b=>(fy c a).bind fun x=>(fy c b).map fun y=>(.ite e x.1 y.1,e.lk.un (x.2.un y.2))
 |c,.call s gs dst f args k=>(fy c k).map fun r=>(.call (s.cut (r.2.un (ll gs))) gs dst f args r.1,(PE.lks args).un ((r.2.un (ll gs)).un (s.cut (r.2.un (ll gs))).lks))
 |c,.callc s gs dst e args k=>(fy c k).map fun r=>(.callc (s.cut (r.2.un (ll gs))) gs dst e args r.1,(e.lk.un (PE.lks args)).un ((r.2.un (ll gs)).un (s.cut (r.2.un (ll gs))).lks))
 |c,.mcall s j f args k=>(fy c k).map fun r=>(.mcall (s.cut r.2) j f args r.1,(PE.lks args).un (r.2.un (s.cut r.2).lks))
 |c,.iteS s e lr lo a b k=>(fy c k).bind fun r=>(fy ⟨r.2,c.ov⟩ a).bind fun x=>(fy ⟨r.2,c.ov⟩ b).map fun y=>
    (.iteS (s.cut (r.2.un (x.2.un y.2))) e lr lo x.1 y.1 r.1,e.lk.un ((r.2.un (x.2.un y.2)).un (s.cut (r.2.un (x.2.un y.2))).lks))
 |c,.blockS s id lr lo a k=>(fy c k).bind fun r=>(fy ⟨r.2,(id,r.2)::c.ov⟩ a).map fun x=>(.blockS (s.cut (r.2.un x.2)) id lr lo x.1 r.1,(r.2.un x.2).un (s.cut (r.2.un x.2)).lks)
 |c,.brk s p k=>(fy c k).bind fun r=>bif m0 (c.ov.map (·.1)) p then some (.brk (s.cut (p.lk.un (r.2.un c.all))) p r.1,(p.lk.un (r.2.un c.all)).un (s.cut (p.lk.un (r.2.un c.all))).lks) else none
theorem LC.all_le:∀{l:List (Nat×Lk)} {id:Nat} {k:Lk},bP l id=some k→k.Le (l.foldr (fun x k=>x.2.un k) .none)
 |[],_,_,h=>by cases h
 |x::l,t,e,h=>by
  simp only[bP] at h;cases hb:Nat.beq x.1 t<;>simp only[hb,cond_true,cond_false] at h
  ·exact(LC.all_le h).trans (Lk.le_r _ _)
  ·cases h;exact Lk.le_l _ _
theorem aao:∀{l:List (Nat×Lk)} {id:Nat},id∈l.map (·.1)→∃k,bP l id=some k
 |[],_,h=>by cases h
 |x::l,id,h=>by
  simp only[bP];cases hb:Nat.beq x.1 id with
  |true=>exact⟨_,rfl⟩
  |false=>
   simp only[cond_false];rcases di.1 h with e|h
   ·rw[e,lU] at hb;cases hb
   ·exact aao h
theorem aqE {T:cD}:∀(t:PT) {c:LC} {t':PT} {L:Lk},fy c t=some (t',L)→∀{Q1 Q2:Out→Prop} {ρ1 ρ2:Env},L8 c Q1 Q2→Alike L ρ1 ρ2→aE T t' ρ1 Q1→aE T t ρ2 Q2:=by
 intro t
 induction t with
 |next s=>
  intro c t' L hp Q1 Q2 ρ1 ρ2 hQ hA h;simp only[fy,bp,mW] at hp;obtain⟨rfl,rfl⟩:=hp;exact hQ.1 _ _ (SE.cut_al hA) h
 |exit id s=>
  intro c t' L hp Q1 Q2 ρ1 ρ2 hQ hA h;simp only[fy,aK,mW] at hp;obtain⟨k,hk,rfl,rfl⟩:=hp;exact hQ.2.1 _ k _ _ hk (SE.cut_al hA) h
 |ret e=>
  intro c t' L hp Q1 Q2 ρ1 ρ2 hQ hA h;simp only[fy,bp,mW] at hp;obtain⟨rfl,rfl⟩:=hp;show Q2 (.ret (e.ev ρ2));rw[PE.ev_alike e hA];exact hQ.2.2 _ h
 |chk e k ih=>
  intro c t' L hp Q1 Q2 ρ1 ρ2 hQ hA h;simp only[fy,aK,mW] at hp;obtain⟨r,hr,rfl,rfl⟩:=hp;exact⟨by rw[PE.ev_alike e (hA.le (Lk.le_l _ _))];exact h.1,ih hr hQ (hA.le (Lk.le_r _ _)) h.2⟩
 |ite e a b bL dW=>
  intro c t' L hp Q1 Q2 ρ1 ρ2 hQ hA h;simp only[fy,aB,aK,mW] at hp;obtain⟨x,hx,y,hy,rfl,rfl⟩:=hp;have h2:=hA.le (Lk.le_r _ _);simp only[aE] at h ⊢;rw[PE.ev_alike e (hA.le (Lk.le_l _ _))];split
  ·rename_i hc;rw[if_pos hc] at h;exact bL hx hQ (h2.le (Lk.le_l _ _)) h
  ·rename_i hc;rw[if_neg hc] at h;exact dW hy hQ (h2.le (Lk.le_r _ _)) h
 |call s gs dst f args k ih=>
  intro c t' L hp Q1 Q2 ρ1 ρ2 hQ hA h;simp only[fy,aK,mW] at hp;obtain⟨r,hr,rfl,rfl⟩:=hp;have hS:=SE.cut_al (hA.le (Lk.le_r _ _));simp only[aE] at h ⊢;rw[PE.evs_alike args (hA.le (Lk.le_l _ _)),zO (hS.le (Lk.le_r _ _))];split
  ·rename_i hc;rw[if_pos hc] at h;obtain⟨d,hd,h⟩:=h;exact⟨d,hd,ih hr hQ ((hS.le (Lk.le_l _ _)).setR dst d) h⟩
  ·rename_i hc;rw[if_neg hc] at h;exact ih hr hQ (hS.le (Lk.le_l _ _)) h
 |callc s gs dst e args k ih=>
  intro c t' L hp Q1 Q2 ρ1 ρ2 hQ hA h;simp only[fy,aK,mW] at hp;obtain⟨r,hr,rfl,rfl⟩:=hp;have hS:=SE.cut_al (hA.le (Lk.le_r _ _));have hE:=hA.le (Lk.le_l _ _);simp only[aE] at h ⊢;rw[PE.ev_alike e (hE.le (Lk.le_l _ _)),PE.evs_alike args (hE.le (Lk.le_r _ _)),zO (hS.le (Lk.le_r _ _))];split
  ·rename_i hc;rw[if_pos hc] at h;obtain⟨f,caps,d,he,hd,h⟩:=h;exact⟨f,caps,d,he,hd,ih hr hQ ((hS.le (Lk.le_l _ _)).setR dst d) h⟩
  ·rename_i hc;rw[if_neg hc] at h;exact ih hr hQ (hS.le (Lk.le_l _ _)) h
 |mcall s j f args k ih=>
  intro c t' L hp Q1 Q2 ρ1 ρ2 hQ hA h;simp only[fy,aK,mW] at hp;obtain⟨r,hr,rfl,rfl⟩:=hp;have hS:=SE.cut_al (hA.le (Lk.le_r _ _));simp only[aE] at h ⊢;rw[PE.evs_alike args (hA.le (Lk.le_l _ _))];obtain⟨d,hd,h⟩:=h;exact⟨d,hd,ih hr hQ (hS.setO j d) h⟩
 |iteS s e lr lo a b k bL dW jH=>
  intro c t' L hp Q1 Q2 ρ1 ρ2 hQ hA h;simp only[fy,aB,aK,mW] at hp;obtain⟨r,hr,x,hx,y,hy,rfl,rfl⟩:=hp;have hS:=SE.cut_al (hA.le (Lk.le_r _ _));have Iw:=hS.le (Lk.le_l _ _);have Cz:=hS.le ((Lk.le_l _ _).trans (Lk.le_r _ _));have hSy:=hS.le ((Lk.le_r _ _).trans (Lk.le_r _ _))
  have rel:L8 ⟨r.2,c.ov⟩ (j7 ((s.cut (r.2.un (x.2.un y.2))).ev ρ1) lr lo (gy (fun ρ'=>aE T r.1 ρ' Q1) Q1)) (j7 (s.ev ρ2) lr lo (gy (fun ρ'=>aE T k ρ' Q2) Q2)):=
   ⟨fun η1 η2 ha hq=>jH hr hQ (Iw.join ha lr lo) hq,fun id k' η1 η2 hk ha hq=>hQ.2.1 id k' _ _ hk ha hq,fun d hq=>hQ.2.2 d hq⟩
  simp only[aE] at h ⊢;rw[PE.ev_alike e (hA.le (Lk.le_l _ _))];split
  ·rename_i hc;rw[if_pos hc] at h;exact bL hx rel Cz h
  ·rename_i hc;rw[if_neg hc] at h;exact dW hy rel hSy h
 |blockS s id lr lo a k bL jH=>
  intro c t' L hp Q1 Q2 ρ1 ρ2 hQ hA h;simp only[fy,aB,aK,mW] at hp;obtain⟨r,hr,x,hx,rfl,rfl⟩:=hp;have hS:=SE.cut_al hA;have Iw:=hS.le (Lk.le_l _ _);refine bL hx (Q1:=lg ((s.cut (r.2.un x.2)).ev ρ1) id lr lo (gy (fun ρ'=>aE T r.1 ρ' Q1) Q1)) ⟨fun η1 η2 ha hq=>jH hr hQ (Iw.join ha lr lo) hq,fun bV k' η1 η2 hk ha hq=>?_,fun d hq=>hQ.2.2 d hq⟩ (hS.le (Lk.le_r _ _)) h;simp only[lg] at hq ⊢;simp only[bP] at hk;by_cases e:bV=id
  ·subst e;simp only[lU,cond_true,bp] at hk;subst hk;rw[if_pos rfl] at hq ⊢;exact jH hr hQ (Iw.join ha lr lo) hq
  ·rw[if_neg e] at hq ⊢;rw[fQ (fun h=>e h.symm),cond_false] at hk;exact hQ.2.1 bV k' _ _ hk ha hq
 |brk s p k jH=>
  intro c t' L hp Q1 Q2 ρ1 ρ2 hQ hA h;simp only[fy,aB] at hp;obtain⟨r,hr,hp⟩:=hp;cases hx:m0 (c.ov.map (·.1)) p<;>simp only[hx,cond_true,cond_false,bp,mW] at hp
  ·cases hp
  obtain⟨rfl,rfl⟩:=hp;have hS:=SE.cut_al hA;have iI:Off (p.lk.un (r.2.un c.all)) (s.ev ρ2) ((s.cut (p.lk.un (r.2.un c.all))).ev ρ1) (s.ev ρ2):=⟨hS,fun _ _=>rfl,fun _ _=>rfl⟩
  obtain⟨x,hq,n0,hn⟩:=h;have step:=fun n (hle:n0≤n)=>PC.ev_off p (Lk.le_l _ _) iI (hn n hle);obtain⟨x',h1,h2⟩:=step n0 (bJ _);refine⟨x',?_,n0,fun n hle=>?_⟩
  ·cases x with
   |next η=>obtain⟨η',rfl,h3⟩:=h2;exact jH hr hQ (h3.al.le ((Lk.le_l _ _).trans (Lk.le_r _ _))) hq
   |exit i η=>
    obtain⟨η',rfl,h3⟩:=h2;obtain⟨k',br⟩:=aao (aiJ p hx (hn n0 (bJ _)));exact hQ.2.1 i k' _ _ br (h3.al.le ((LC.all_le br).trans ((Lk.le_r _ _).trans (Lk.le_r _ _)))) hq
   |ret d=>cases h2;exact hQ.2.2 d hq
  ·obtain⟨x2,h3,h4⟩:=step n hle;rw[h3,h2.uniq h4]
def DM (c:LC)(t:PT):PT:=match fy c t with|some r=>r.1|none=>t
theorem J1 {T:cD}{c:LC}{t:PT}{Q:Out→Prop}{ρ:Env}(hQ:L8 c Q Q)(h:aE T (DM c t) ρ Q):aE T t ρ Q:=by
 unfold DM at h;split at h
 ·rename_i r hr;exact aqE t hr hQ ⟨fun _ _=>rfl,fun _ _=>rfl⟩ h
 ·exact h
def afg (c:PC):PT:=sx c [] .id (fun _ s=>.next s) (fun _ id s=>.exit id s)
theorem afh {T:cD}{c:PC}{ρ:Env}{Q:Out→Prop}(h:aE T (afg c) ρ Q):aH T c ρ Q:=
 Lf (s:=.id) c (bZ.ok_nil _) h (fun ρ' ae s _ _ h=>h) (fun ρ' ae id s _ _ h=>h) (fun _ _ _ h=>h) (fun _ h=>h)
def tree (c:PC):PT:=DM ⟨.none,[]⟩ (afg c)
theorem Lz {T:cD}{c:PC}{ρ:Env}{d:D}(h:aE T (tree c) ρ fun x=>x=.ret d):aH T c ρ fun x=>x=.ret d:=
 afh (J1 ⟨fun _ _ _ h=>(by cases h),fun _ _ _ _ _ _ h=>(by cases h),fun _ h=>h⟩ h)
def SE.keep (s:SE)(lr lo:List Nat):SE:=⟨lr.map fun t=>(t,s.getR t),lo.map fun t=>(t,s.getO t)⟩
theorem SE.keep_r (s:SE)(lr lo:List Nat)(ρ:Env):lr.map ((s.keep lr lo).ev ρ).r=lr.map (s.ev ρ).r:=by
 apply xE;intro t ht;show((s.keep lr lo).getR t).ev ρ=(s.getR t).ev ρ;have:=wq (f:=fun t=>s.getR t) (l:=[]) (u:=t) lr;rw[qG,if_pos ht] at this;have e:(s.keep lr lo).getR t=s.getR t:=by unfold SE.getR SE.keep;simp only[];rw[this];rfl
 rw[e]
theorem SE.keep_o (s:SE)(lr lo:List Nat)(ρ:Env):lo.map ((s.keep lr lo).ev ρ).o=lo.map (s.ev ρ).o:=by
 apply xE;intro t ht;show((s.keep lr lo).getO t).ev ρ=(s.getO t).ev ρ;have:=wq (f:=fun t=>s.getO t) (l:=[]) (u:=t) lo;rw[qG,if_pos ht] at this;have e:(s.keep lr lo).getO t=s.getO t:=by unfold SE.getO SE.keep;simp only[];rw[this];rfl
 rw[e]
def aeJ (id:Nat)(bH bG lr lo:List Nat)(a:PC):PT:=
 sx a [] .id (fun _ s=>.next (s.keep lr lo)) (fun _ bV s=>bif Nat.beq bV id then .exit id (s.keep bH bG) else .exit bV s)
def eY (ρ:Env)(id:Nat)(bH bG lr lo:List Nat)(K:List D→List D→Prop)(Q:Out→Prop):Out→Prop
 |.next ρ'=>K (lr.map ρ'.r) (lo.map ρ'.o)
 |.exit bV ρ'=>if bV=id then Q (.next (ρ.put bH (bH.map ρ'.r) bG (bG.map ρ'.o))) else Q (.exit bV ρ')
 |.ret d=>Q (.ret d)
def round (id:Nat)(bH bG lr lo:List Nat)(a:PC):PT:=DM ⟨⟨bits lr,lo⟩,[(id,⟨bits bH,bG⟩)]⟩ (aeJ id bH bG lr lo a)
theorem aaF {k:Lk}{lr:List Nat}{ρ1 ρ2:Env}(h:Alike k ρ1 ρ2)(hk:∀t,t∈lr→aO k.r t=true):lr.map ρ2.r=lr.map ρ1.r:=xE fun t ht=>h.r t (hk t ht)
theorem Jn {k:Lk}{lo:List Nat}{ρ1 ρ2:Env}(h:Alike k ρ1 ρ2)(hk:∀t,t∈lo→t∈k.o):lo.map ρ2.o=lo.map ρ1.o:=xE fun t ht=>h.o t (hk t ht)
theorem ar8 {T:cD}{id:Nat}{bH bG lr lo:List Nat}{a:PC}{ρ ρ0:Env}{K:List D→List D→Prop}{Q:Out→Prop}(h:aE T (round id bH bG lr lo a) ρ (eY ρ0 id bH bG lr lo K Q)):aE T (aeJ id bH bG lr lo a) ρ (eY ρ0 id bH bG lr lo K Q):=by
 refine J1 ⟨fun ρ1 ρ2 ha hq=>?_,fun bV k ρ1 ρ2 hk ha hq=>?_,fun d hq=>hq⟩ h
 ·simp only[eY] at hq ⊢;rw[aaF ha fun t ht=>Ng ht,Jn ha fun t ht=>ht];exact hq
 ·simp only[bP] at hk;cases hb:Nat.beq id bV<;>simp only[hb,cond_true,cond_false] at hk
  ·cases hk
  ·cases hk;have:=dj hb;subst this;simp only[eY,if_true] at hq ⊢;rw[aaF ha fun t ht=>Ng ht,Jn ha fun t ht=>ht];exact hq
theorem aH.forLoop {T:cD}{id:Nat}{bH bG lr lo:List Nat}{a:PC}{ρ:Env}{Q:Out→Prop}{α:Type}(inv:α→List D→List D→Prop)(tT:α→Nat)(s0:α)(h0:inv s0 (lr.map ρ.r) (lo.map ρ.o))
 (step:∀s vr vo,inv s vr vo→aE T (round id bH bG lr lo a) (ρ.put lr vr lo vo) (eY ρ id bH bG lr lo (fun vr vo=>∃s',tT s'<tT s∧inv s' vr vo) Q)):aH T (.block id bH bG (.loop lr lo a)) ρ Q:=by
 refine .block (.loop inv tT s0 h0 fun s vr vo hi=>?_);have h:=ar8 (step s vr vo hi);refine Lf (s:=.id) a (bZ.ok_nil _) h (fun ρ' ae s' _ _ h=>?_) (fun ρ' ae bV s' _ _ h=>?_) (fun _ bV ρ' h=>?_) (fun d h=>h)
 ·simp only[aE,eY] at h;rw[SE.keep_r,SE.keep_o] at h;exact h
 ·simp only[gy,lg];by_cases cE:bV=id
  ·subst cE;simp only[lU,cond_true,aE,eY,if_true] at h;rw[SE.keep_r,SE.keep_o] at h;rw[if_pos rfl];exact h
  ·rw[fQ cE,cond_false] at h;simp only[aE,eY] at h;rw[if_neg cE] at h ⊢;exact h
 ·simp only[gy,lg];simp only[eY] at h;split
  ·rename_i e;rw[if_pos e] at h;exact h
  ·rename_i e;rw[if_neg e] at h;exact h
def aeK (lo:List Nat)(a:PC):PT:=sx a [] .id (fun _ s=>.next (s.keep [] lo)) (fun _ id s=>.exit id (s.keep [] lo))
def oZ (lo:List Nat)(a:PC):PT:=DM ⟨⟨0,lo⟩,[(cL,⟨0,lo⟩)]⟩ (aeK lo a)
theorem aeL {T:cD}{lo:List Nat}{a:PC}{ρ:Env}{Q:Out→Prop}(hn:∀ρ1 ρ2,lo.map ρ2.o=lo.map ρ1.o→Q (.next ρ1)→Q (.next ρ2))(hx:∀ρ1 ρ2,lo.map ρ2.o=lo.map ρ1.o→Q (.exit cL ρ1)→Q (.exit cL ρ2))(h:aE T (oZ lo a) ρ Q):aE T (aeK lo a) ρ Q:=by
 refine J1 ⟨fun ρ1 ρ2 ha hq=>hn ρ1 ρ2 (Jn ha fun t ht=>ht) hq,fun bV k ρ1 ρ2 hk ha hq=>?_,fun d hq=>hq⟩ h;simp only[bP] at hk;cases hb:Nat.beq cL bV<;>simp only[hb,cond_true,cond_false] at hk
 ·cases hk
 ·cases hk;have:=dj hb;subst this;exact hx ρ1 ρ2 (Jn ha fun t ht=>ht) hq
theorem aH.eachR {T:cD}{e:PE}{ps lo:List Nat}{rt:Option PE}{a:PC}{ρ:Env}{Q:Out→Prop}(xs:List D)(he:(e.ev ρ).l=xs)(inv:Nat→List D→Prop)(h0:inv 0 (lo.map ρ.o))
 (step:∀k x vo,xs[k]?=some x→inv k vo→aE T (oZ lo a) (ρ.put ps (partsOf ps x) lo vo) (sW ρ lo rt (inv (k+1)) Q)) (done:∀vo,inv xs.length vo→Q (.next (ρ.put [] [] lo vo))):aH T (.each e ps lo rt a) ρ Q:=by
 refine .each xs he inv h0 (fun k x vo hx hi=>?_) done;have h:=aeL (fun ρ1 ρ2 e hq=>by simp only[sW] at hq ⊢;rw[e];exact hq) (fun ρ1 ρ2 e hq=>by simp only[sW,if_true] at hq ⊢;rw[e];exact hq) (step k x vo hx hi);refine Lf (s:=.id) a (bZ.ok_nil _) h (fun ρ' ae s' _ _ h=>?_) (fun ρ' ae bV s' _ _ h=>?_) (fun _ bV ρ' h=>h) (fun d h=>h)
 ·simp only[aE,sW] at h;rw[SE.keep_o] at h;exact h
 ·simp only[aE,sW] at h;rw[SE.keep_o] at h;exact h
theorem aH.meachR {T:cD}{J:Nat}{ps cY lo:List Nat}{a:PC}{ρ:Env}{Q:Out→Prop}(es:List (D×D))(he:ρ.o J=.tup [.list [],.map es])(inv:List D→List D→Prop)(h0:inv [] (lo.map ρ.o))
 (step:∀done x rest vo,(done++x::rest).Perm (gR (.map es))→inv done vo→aE T (oZ lo a) ((ρ.put ps (cY.map x.tget) lo vo).setO J (.tup [.list (done++[x]),.map es])) (fun y=>∃ρ',y=.next ρ'∧inv (done++[x]) (lo.map ρ'.o)))
 (last:∃vo,(∀done,done.Perm (gR (.map es))→∀qA,inv done qA→qA=vo)∧Q (.next (ρ.put [] [] lo vo))):aH T (.meach J ps cY lo a) ρ Q:=by
 refine .meach es he inv h0 (fun done x rest vo hp hi=>?_) last;have h:=aeL (fun ρ1 ρ2 e ⟨ρ',e1,hq⟩=>by cases e1;exact⟨_,rfl,by rw[e];exact hq⟩) (fun ρ1 ρ2 e ⟨ρ',e1,hq⟩=>by cases e1) (step done x rest vo hp hi);refine Lf (s:=.id) a (bZ.ok_nil _) h (fun ρ' ae s' _ _ h=>?_) (fun ρ' ae bV s' _ _ h=>?_) (fun _ bV ρ' h=>?_) (fun d h=>?_)
 ·simp only[aE] at h;obtain⟨ρ2,e,h⟩:=h;injection e with e;subst e;rw[SE.keep_o] at h;exact⟨_,rfl,h⟩
 ·simp only[aE] at h;obtain⟨ρ2,e,h⟩:=h;cases e
 ·obtain⟨ρ2,e,_⟩:=h;cases e
 ·obtain⟨ρ2,e,_⟩:=h;cases e
theorem xJ {T:cD}:∀(t:PT) {ρ:Env} {Q Q':Out→Prop},(∀x,Q x→Q' x)→aE T t ρ Q→aE T t ρ Q':=by
 intro t
 induction t with
 |next s=>intro ρ Q Q' h hx;exact h _ hx
 |exit id s=>intro ρ Q Q' h hx;exact h _ hx
 |ret e=>intro ρ Q Q' h hx;exact h _ hx
 |chk e k ih=>intro ρ Q Q' h hx;exact⟨hx.1,ih h hx.2⟩
 |ite c a b bL dW=>
  intro ρ Q Q' h hx;simp only[aE] at hx ⊢;split
  ·rename_i hc;rw[if_pos hc] at hx;exact bL h hx
  ·rename_i hc;rw[if_neg hc] at hx;exact dW h hx
 |call s gs dst f args k ih=>
  intro ρ Q Q' h hx;simp only[aE] at hx ⊢;split
  ·rename_i hc;rw[if_pos hc] at hx;obtain⟨d,hd,hx⟩:=hx;exact⟨d,hd,ih h hx⟩
  ·rename_i hc;rw[if_neg hc] at hx;exact ih h hx
 |callc s gs dst e args k ih=>
  intro ρ Q Q' h hx;simp only[aE] at hx ⊢;split
  ·rename_i hc;rw[if_pos hc] at hx;obtain⟨f,c,d,he,hd,hx⟩:=hx;exact⟨f,c,d,he,hd,ih h hx⟩
  ·rename_i hc;rw[if_neg hc] at hx;exact ih h hx
 |mcall s j f args k ih=>intro ρ Q Q' h hx;obtain⟨d,hd,hx⟩:=hx;exact⟨d,hd,ih h hx⟩
 |iteS s c lr lo a b k bL dW jH=>
  intro ρ Q Q' h hx
  have hq:∀x,j7 (s.ev ρ) lr lo (gy (fun ρ'=>aE T k ρ' Q) Q) x→j7 (s.ev ρ) lr lo (gy (fun ρ'=>aE T k ρ' Q') Q') x:=by
   intro x hx;cases x with
   |next ρ'=>exact jH h hx
   |exit id ρ'=>exact h _ hx
   |ret d=>exact h _ hx
  simp only[aE] at hx ⊢;split
  ·rename_i hc;rw[if_pos hc] at hx;exact bL hq hx
  ·rename_i hc;rw[if_neg hc] at hx;exact dW hq hx
 |blockS s id lr lo a k bL jH=>
  intro ρ Q Q' h hx;refine bL (fun x hx=>?_) hx;cases x with
  |next ρ'=>exact jH h hx
  |exit bV ρ'=>
   simp only[lg] at hx ⊢;split
   ·rename_i e;rw[if_pos e] at hx;exact jH h hx
   ·rename_i e;rw[if_neg e] at hx;exact h _ hx
  |ret d=>exact h _ hx
 |brk s c k ih=>
  intro ρ Q Q' h hx;refine aH.mono hx fun x hx=>?_;cases x with
  |next ρ'=>exact ih h hx
  |exit id ρ'=>exact h _ hx
  |ret d=>exact h _ hx
theorem aH.forRounds {T:cD}{id:Nat}{bH bG lr lo:List Nat}{a:PC}{ρ:Env}{Q:Out→Prop}(N:Nat)(str fi:Nat→List D)(h0:lr.map ρ.r=str 0∧lo.map ρ.o=fi 0)
 (step:∀k,k<N→aE T (round id bH bG lr lo a) (ρ.put lr (str k) lo (fi k)) (eY ρ id bH bG lr lo (fun vr vo=>vr=str (k+1)∧vo=fi (k+1)) Q))
 (last:aE T (round id bH bG lr lo a) (ρ.put lr (str N) lo (fi N)) (eY ρ id bH bG lr lo (fun _ _=>False) Q)):aH T (.block id bH bG (.loop lr lo a)) ρ Q:=by
 refine .forLoop (α:=Nat) (fun k vr vo=>k≤N∧vr=str k∧vo=fi k) (fun k=>N-k) 0 ⟨xI _,h0.1,h0.2⟩ ?_;rintro k vr vo ⟨hk,rfl,rfl⟩;have mono:∀{K K':List D→List D→Prop},(∀a b,K a b→K' a b)→∀x,eY ρ id bH bG lr lo K Q x→eY ρ id bH bG lr lo K' Q x:=by
  intro K K' h x hx;cases x with
  |next ρ'=>exact h _ _ hx
  |exit bV ρ'=>exact hx
  |ret d=>exact hx
 by_cases aq:k<N
 ·exact xJ _ (mono fun a b ⟨h1,h2⟩=>⟨k+1,by omega,by omega,h1,h2⟩) (step k aq)
 ·obtain rfl:k=N:=by omega
  exact xJ _ (mono fun a b h=>h.elim) last
theorem SX {ρ:Env}{id:Nat}{bH bG lr lo:List Nat}{K K':List D→List D→Prop}{Q:Out→Prop}(h:∀a b,K a b→K' a b):∀x,eY ρ id bH bG lr lo K Q x→eY ρ id bH bG lr lo K' Q x:=by
 intro x hx;cases x with
 |next ρ'=>exact h _ _ hx
 |exit bV ρ'=>exact hx
 |ret d=>exact hx
theorem aH.scan {T:cD}{id:Nat}{bH bG lr lo:List Nat}{a:PC}{ρ:Env}{Q:Out→Prop}(N:Nat)(ok:Nat→Prop)(str fi:Nat→List D)(h0:lr.map ρ.r=str 0∧lo.map ρ.o=fi 0)
 (step:∀k,k<N→(∀j,j<k→ok j)→ok k→aE T (round id bH bG lr lo a) (ρ.put lr (str k) lo (fi k)) (eY ρ id bH bG lr lo (fun vr vo=>vr=str (k+1)∧vo=fi (k+1)) Q))
 (bad:∀k,k<N→(∀j,j<k→ok j)→¬ok k→aE T (round id bH bG lr lo a) (ρ.put lr (str k) lo (fi k)) (eY ρ id bH bG lr lo (fun _ _=>False) Q))
 (last:(∀j,j<N→ok j)→aE T (round id bH bG lr lo a) (ρ.put lr (str N) lo (fi N)) (eY ρ id bH bG lr lo (fun _ _=>False) Q)):aH T (.block id bH bG (.loop lr lo a)) ρ Q:=by
 refine .forLoop (α:=Nat) (fun k vr vo=>k≤N∧(∀j,j<k→ok j)∧vr=str k∧vo=fi k) (fun k=>N-k) 0 ⟨xI _,fun j hj=>by omega,h0.1,h0.2⟩ ?_;rintro k vr vo ⟨hk,hj,rfl,rfl⟩;by_cases aq:k<N
 ·by_cases az:ok k
  ·refine xJ _ (SX fun a b ⟨h1,h2⟩=>⟨k+1,by omega,by omega,fun j vH=>?_,h1,h2⟩) (step k aq hj az);by_cases e:j=k
   ·subst e;exact az
   ·exact hj j (by omega)
  ·exact xJ _ (SX fun a b h=>h.elim) (bad k aq hj az)
 ·obtain rfl:k=N:=by omega
  exact xJ _ (SX fun a b h=>h.elim) (last hj)
def ar (n:Nat)(e:PE):PE:=.mk ((List.range n).map fun i=>.cell e i)
def gX (n:Nat)(d:D):D:=.agg ((List.range n).flatMap fun i=>(d.c i).cells)
theorem aiH (ρ:Env)(n:Nat)(e:PE):(ar n e).ev ρ=gX n (e.ev ρ):=by
 have key:∀l:List Nat,PE.evc ρ (l.map fun i=>.cell e i)=l.flatMap fun i=>((e.ev ρ).c i).cells:=by
  intro l
  induction l with
  |nil=>rfl
  |cons i l ih=>simp only[iX,PE.evc,PE.ev,Bj,ih]
 show D.agg _=_;rw[key];rfl
end Cx
