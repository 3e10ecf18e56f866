/-
  Shared texts of this claim.
-/
import Derived.Test.YtbeeplempgffoaaGreatDoorDAA
import Derived.ChangeKeysEq
import Derived.Laws.Tables
set_option linter.unusedSimpArgs false
set_option linter.unusedVariables false
namespace Cx
open Go Go.RowKit
theorem va {n:Nat}(h:n≤maxLen):IntKind.i64.min≤(n:Int)∧(n:Int)≤IntKind.i64.max:=by
 simp only[maxLen] at h;simp only[IntKind.min,IntKind.max,IntKind.signed,IntKind.bits];simp;omega
section
variable {C:Ctx} {S:St} {ρ:Env} {σ:Im} {own:Nat→Option Nat} {hv:Nat→Value} {w0:World} {σ0:Base} {A:Nat→Prop} {a:Act} {w:World} {gs:List (Nat×Bool)} {Φ:aY} {dst:Nat}
def Oa (C:Ctx)(σ:Im)(w:World)(B:Nat)(t:Ty)(v:Value)(d:D):Prop:=
 Rep C.cap σ t v d∨
 (∃T e cells xs,t=.slice e.rol∧d=.list xs∧w.ownsRow B T e.size v xs.length cells∧jM C.cap σ e cells xs)∨
 (∃k arr clock es kt et,t=.map kt et∧v=.map (some k)∧w.heap[k]?=some (.map arr clock)∧d=.map es∧es.length=arr.size∧es.length≤maxLen∧
    ∀(i:Nat) (e:MapEntry) (p:D×D),arr[i]?=some e→es[i]?=some p→Rep C.cap σ kt e.key p.1∧Rep C.cap σ et e.val p.2)
theorem Yo (h:Inv C S ρ σ own hv w0 σ0 A a w)(hC:CtxOK C σ0)(hg:holds gs ρ=true){x:Operand}{r:Ty×PE}(hu:view C S gs x=some r):Oa C σ w w0.heap.size r.1 (a.eval x) (r.2.ev ρ):=by
 unfold view at hu;split at hu
 ·rename_i r' Ep;cases hu;exact .inl (cG h hC hg Ep)
 ·split at hu
  ·rename_i t _;obtain⟨hs,_⟩:=tS h hg t;split at hu
   ·rename_i j ver e;rw[e] at hs;cases hb:Nat.beq ver (S.ver j)<;>simp only[hb,cond_true,cond_false] at hu
    ·cases hu
    ·have fS:=aN hb;have ho:=h.objs j;have cS:a.eval (.tmp t)=hv j:=hs.2 fS;split at hu
     ·rename_i T e eo;rw[eo] at ho;cases hu;obtain⟨cells,xs,h1,h2,h3,h4⟩:=ho;rw[cS];exact .inr (.inl ⟨T,e,cells,xs,rfl,h1,h2,h3⟩)
     ·rename_i kt et eo;rw[eo] at ho;cases hu;obtain⟨k,arr,clock,es,h1,h2,h3,h4,h5,⟨hx,_⟩,h6⟩:=ho;rw[cS];exact .inr (.inr ⟨k,arr,clock,es,kt,et,rfl,h1,h3,h4,h5,hx,h6⟩)
     ·cases hu
   ·cases hu
  ·cases hu
theorem xR {w:World}{B e size n:Nat}{v:Value}{cells:List Value}(h:w.ownsRow B e size v n cells):∃b c,v=.slice b n c∧n≤maxLen∧n≤c:=by
 rcases h.2 with⟨rfl,rfl⟩|⟨g,cap,cur,rfl,h1,h2,h3,h4,h5⟩
 ·exact⟨none,0,rfl,by decide,bK _⟩
 ·exact⟨_,cap,rfl,ke h3 h4,h3⟩
theorem UY {b:Builtin}{args:Array Operand}{ts:Array TypeId}{o:Oper}(ho:o.op=.call {callee:=.builtin b,args:=args,argTypes:=ts}):
 ∃cs,(execOp a.eval o).run C.P w=(builtin b ts o.type cs (args.map a.eval)).run C.P w:=
 ⟨_,by simp only[execOp,ho,resolve,invoke];rfl⟩
theorem atU (h:Inv C S ρ σ own hv w0 σ0 A a w)(hC:CtxOK C σ0)(hg:holds gs ρ=true){T:TypeId}{x:Operand}{r:Sh×List PI}(hr:SK C S gs dst T x=some r){o:Oper}
 (ho:o.op=.call {callee:=.builtin .len,args:=#[x],argTypes:=#[T]}):eI C S ρ σ hv Φ dst a w o r:=by
 simp only[SK,aG] at hr;obtain⟨p,hp,hr⟩:=hr;have bj:=Yo h hC hg hp;obtain⟨cs,ay⟩:=UY (C:=C) (w:=w) (a:=a) ho;split at hr
 ·rename_i e T' e1 e2;rw[e1] at bj;cases hr;have hx:∃b n c xs,a.eval x=.slice b n c∧p.2.ev ρ=.list xs∧xs.length=n∧n≤maxLen:=by
   rcases bj with bj|⟨T,e,cells,xs,ht,hd,dz,jo⟩|⟨k,arr,clock,es,kt,et,ht,_⟩
   ·obtain⟨xs,hd,⟨⟨p0,bJ⟩,rfl⟩|⟨k,o,c,bJ,h1,h2,_⟩⟩:=bj.slice_inv
    ·exact⟨p0,0,0,[],bJ,hd,rfl,by decide⟩
    ·exact⟨_,_,c,xs,bJ,hd,rfl,by omega⟩
   ·obtain⟨b,c,bJ,h1,_⟩:=xR dz;exact⟨b,_,c,xs,bJ,hd,rfl,h1⟩
   ·cases ht
  obtain⟨b,n,c,xs,bJ,hd,hl,hm⟩:=hx;refine .dat (v:=.int .i64 n) ?_ ?_
  ·rw[ay];simp[builtin,Builtin.len_,bJ,run_underlying e2,goInt]
  ·simp only[PE.ev,hd,D.l_list,hl];exact .int _ _ (va hm).1 (va hm).2
 ·rename_i e T' e1 e2;rw[e1] at bj;cases hr;rcases bj with bj|⟨T,e,cells,xs,ht,_⟩|⟨k,arr,clock,es,kt,et,ht,_⟩
  ·generalize xq:a.eval x=v at bj;generalize uB:p.2.ev ρ=d at bj;cases bj;refine .dat (v:=.int .i64 0) ?_ ?_
   ·rw[ay];simp[builtin,Builtin.len_,xq,run_underlying e2,goInt]
   ·simp only[PE.ev,uB,D.l_list];exact .int _ _ (by decide) (by decide)
  ·cases ht
  ·cases ht
 ·rename_i e1 e2;rw[e1] at bj;cases hr;rcases bj with bj|⟨T,e,cells,xs,ht,_⟩|⟨k,arr,clock,es,kt,et,ht,_⟩
  ·obtain⟨n,bJ,bB,hm⟩:=bj.str_inv;refine .dat (v:=.int .i64 n.size) ?_ ?_
   ·rw[ay];simp[builtin,Builtin.len_,bJ,run_underlying e2,goInt]
   ·simp only[PE.ev,bB,D.s_str];exact .int _ _ (va hm).1 (va hm).2
  ·cases ht
  ·cases ht
 ·rename_i k0 e0 a0 b0 e1 e2;rw[e1] at bj;cases hr;rcases bj with bj|⟨T,e,cells,xs,ht,_⟩|⟨k,arr,clock,es,kt,et,ht,bJ,hb,bB,hl,hx,_⟩
  ·generalize xq:a.eval x=v at bj;generalize uB:p.2.ev ρ=d at bj;cases bj with
   |mapnil=>
    refine .dat (v:=.int .i64 0) ?_ ?_
    ·rw[ay];simp[builtin,Builtin.len_,xq,run_underlying e2,goInt]
    ·simp only[PE.ev,uB,D.m];exact .int _ _ (by decide) (by decide)
   |map kt et r jK es hm hl hx hk _=>
    obtain⟨_,arr,clock,hb,lG⟩:=(h.ok.m _ _ hm).resolve_right (fun e=>EX hl hk e.1);have hn:arr.size=es.length:=by rw[hl,←lG];simp[entriesOf]
    refine .dat (v:=.int .i64 arr.size) ?_ ?_
    ·rw[ay];simp[builtin,Builtin.len_,xq,run_underlying e2,goInt,getObj,Sem.run,hb]
    ·simp only[PE.ev,uB,D.m,hn];exact .int _ _ (va hx).1 (va hx).2
  ·cases ht
  ·refine .dat (v:=.int .i64 arr.size) ?_ ?_
   ·rw[ay];simp[builtin,Builtin.len_,bJ,run_underlying e2,goInt,getObj,Sem.run,hb]
   ·simp only[PE.ev,bB,D.m,hl];exact .int _ _ (va (hl▸hx)).1 (va (hl▸hx)).2
 ·cases hr
theorem afI (h:Inv C S ρ σ own hv w0 σ0 A a w)(hC:CtxOK C σ0)(hg:holds gs ρ=true){mx:Bool}{x y:Operand}{ts:Array TypeId}{r:Sh×List PI}(hr:LG C S gs dst mx x y=some r){o:Oper}
 (ho:o.op=.call {callee:=.builtin (bif mx then .max else .min),args:=#[x,y],argTypes:=ts}):eI C S ρ σ hv Φ dst a w o r:=by
 simp only[LG,aG] at hr;obtain⟨p,hp,q,hq,hr⟩:=hr;have bj:=cG h hC hg hp;have dK:=cG h hC hg hq;obtain⟨cs,ay⟩:=UY (C:=C) (w:=w) (a:=a) ho;split at hr
 ·rename_i k k' e1 e2;rw[e1] at bj;rw[e2] at dK;obtain⟨n,bJ,bB,b1,b2⟩:=bj.int_inv;obtain⟨m,iI,dy,b3,b4⟩:=dK.int_inv;cases uH:(k==k')<;>simp only[uH,cond_true,cond_false] at hr
  ·cases hr
  ·have Qt:k=k':=by simpa using uH
   subst Qt;cases hr;cases mx with
   |true=>
    refine .dat (v:=.int k (if m>n then m else n)) ?_ ?_
    ·rw[ay];simp[builtin,Builtin.max_,Builtin.max2,bJ,iI]
    ·simp only[cond_true,PE.ev,bB,dy,D.i_int];by_cases ar:m>n<;>simp[ar]<;>constructor<;>assumption
   |false=>
    refine .dat (v:=.int k (if m<n then m else n)) ?_ ?_
    ·rw[ay];simp[builtin,Builtin.min_,Builtin.min2,bJ,iI]
    ·simp only[cond_false,PE.ev,bB,dy,D.i_int];by_cases ar:m<n<;>simp[ar]<;>constructor<;>assumption
 ·cases hr
theorem atM (h:Inv C S ρ σ own hv w0 σ0 A a w)(hC:CtxOK C σ0)(hg:holds gs ρ=true){x:Operand}{i:Nat}{r:Sh×List PI}(hr:SD C S gs dst x i=some r){o:Oper}(ho:o.op=.extract x i):
 eI C S ρ σ hv Φ dst a w o r:=by
 simp only[SD,aG] at hr;obtain⟨p,hp,hr⟩:=hr;have bj:=cG h hC hg hp;split at hr
 ·rename_i ts e1;rw[e1] at bj;simp only[aR] at hr;obtain⟨t,ht,rfl⟩:=hr;obtain⟨vs,ds,bJ,bB,l1,l2,bn⟩:=bj.tup_inv;have hi:i<vs.length:=by rw[l1];exact(jh.1 ht).1
  refine .dat (v:=vs.getD i undef) ?_ ?_
  ·obtain⟨u,hu⟩:∃u,vs[i]?=some u:=⟨_,cl hi⟩
   have m9:vs.getD i undef=u:=by rw[bh,hu];rfl
   rw[m9];simp[execOp,ho,bJ,Instr.extract,hu]
  ·simp only[PE.ev,bB];exact bn i t ht
 ·cases hr
end
end Cx
namespace Cx
open Go Go.RowKit
theorem uX {P:Program}{T:TypeId}{ag:Bool}(h:p6 P T=some ag)(w:World):(isAgg T).run P w=.ok ag w:=by
 unfold p6 at h;split at h
 ·rename_i fs hu;cases h;simp[isAgg,run_underlying hu]
 ·rename_i n e hu;cases h;simp[isAgg,run_underlying hu]
 ·rename_i d h1 h2 hu;cases h;cases d<;>simp_all [isAgg,run_underlying hu]
 ·cases h
theorem ui (k o n:Nat):(⟨k,o,none⟩:Addr).add n=⟨k,o+n,none⟩:=by
 unfold Addr.add;split<;>simp_all
theorem MZ {P:Program}{T:TypeId}{inf:TypeInfo}{ag:Bool}{w:World}{k o:Nat}{cs:List Value}(hi:P.info? T=some inf)(ha:p6 P T=some ag)(hl:cs.length=inf.size)
 (h1:ag=false→cs.length=1) (hc:∀j u,cs[j]?=some u→w.cell? ⟨k,o+j,none⟩=some u):(loadVar T ⟨k,o,none⟩).run P w=.ok (rowOf ag cs) w:=by
 cases ag with
 |true=>
  have:=run_loadCells_list (P:=P) w ⟨k,o,none⟩ cs (fun j v hv=>by rw[ui];exact hc j v hv);rw[hl] at this;simp[loadVar,uX ha,Go.sizeOf,run_typeInfo w hi,this,rowOf]
 |false=>
  obtain⟨u,hu⟩:∃u,cs=[u]:=by
   have:=h1 rfl
   match cs,this with
   |[u],_=>exact⟨u,rfl⟩
  subst hu;have h0:=hc 0 u rfl;simp only[sd] at h0;simp[loadVar,uX ha,rowOf,run_load,h0]
section
variable {C:Ctx} {S:St} {ρ:Env} {σ:Im} {own:Nat→Option Nat} {hv:Nat→Value} {w0:World} {σ0:Base} {A:Nat→Prop} {a:Act} {w:World} {gs:List (Nat×Bool)} {Φ:aY} {dst:Nat}
theorem vD {o:Oper}{T:TypeId}{x:Operand}{v:Value}{k off:Nat}(ho:o.op=.load T x)(hx:a.eval x=.pointer (some ⟨k,off,none⟩))(hl:(loadVar T ⟨k,off,none⟩).run C.P w=.ok v w):
 (execOp a.eval o).run C.P w=.ok (.value v) w:=by
 simp[execOp,ho,Instr.loadAt,hx,Instr.sureAddr,hl]
theorem sF {α:Type}{l:List α}{i:Nat}{x d:α}(h:l[i]?=some x):l.getD i d=x:=by
 rw[bh,h];rfl
theorem LK {cap:Nat→Option CSig}{ts:List Ty}{vs:List Value}{ds:List D}{ag:Bool}{n off:Nat}{ty:Ty}(hp:vj ag n ts off=some ty)
 (h1:vs.length=ts.length) (h2:ds.length=ts.length) (hr:∀(i:Nat) (t:Ty),ts[i]?=some t→Rep cap σ t (vs.getD i undef) (ds.getD i .none)) (ho:∀(i:Nat) (t:Ty),ts[i]?=some t→t.one=true):
 Rep cap σ ty (rowOf ag ((vs.drop off).take n)) (bif ag then .agg ((ds.drop off).take n) else ds.getD off .none)∧((vs.drop off).take n).length=n∧(ag=false→n=1):=by
 unfold vj at hp;cases hle:Nat.ble (off+n) ts.length<;>simp only[hle,cond_true,cond_false] at hp
 ·cases hp
 ·have Kq:=l7 hle;have hlen:((vs.drop off).take n).length=n:=by simp;omega
  cases ag with
  |true=>
   simp only[cond_true] at hp;cases hp;refine⟨?_,hlen,fun e=>by cases e⟩;simp only[rowOf,if_true,cond_true];refine .agg _ _ _ (by simp;omega) (by simp;omega) (fun i t hi=>?_) (fun i t hi=>?_)
   ·simp only[ia,iS] at hi;split at hi
    ·rename_i bU;have:=hr (off+i) t hi;simpa [bh,ia,iS,bU] using this
    ·cases hi
   ·simp only[ia,iS] at hi;split at hi
    ·exact ho _ t hi
    ·cases hi
  |false=>
   simp only[cond_false] at hp;cases hn:Nat.beq n 1<;>simp only[hn,cond_true,cond_false] at hp
   ·cases hp
   ·have pU:=aN hn;subst pU;refine⟨?_,hlen,fun _=>rfl⟩;have:=hr off ty hp;have ar:off<vs.length:=by omega
    simpa [rowOf,bh,ia,iS] using this
theorem LJ {ag:Bool}{n:Nat}{e:PE}{off:Nat}{ds:List D}(h:e.ev ρ=.agg ds):(Bv ag n e off).ev ρ=bif ag then .agg ((ds.drop off).take n) else ds.getD off .none:=by
 cases ag<;>simp[Bv,PE.ev,h,D.cells,D.c]
theorem Inv.cell (h:Inv C S ρ σ own hv w0 σ0 A a w){k o:Nat}{u:Value}(hc:σ.c k o=some u):w.cell? ⟨k,o,none⟩=some u:=h.ok.c _ _ _ hc
theorem Rep.rowOf {cap:Nat→Option CSig}{t:Ty}{v:Value}{d:D}(h:Rep cap σ t v d):v=Cx.rowOf t.rowT v.cells.toList:=by
 cases h<;>simp[Cx.rowOf,Ty.rowT,Value.cells]
theorem Rep.cells1 {cap:Nat→Option CSig}{t:Ty}{v:Value}{d:D}(h:Rep cap σ t v d)(ht:t.rowT=false):v.cells=#[v]:=by
 cases h<;>simp_all [Ty.rowT,Value.cells]
theorem atV (h:Inv C S ρ σ own hv w0 σ0 A a w){T:TypeId}{x:Operand}{inf:TypeInfo}{ag:Bool}(hi:C.P.info? T=some inf)(ha:p6 C.P T=some ag){o:Oper}(ho:o.op=.load T x)
 {ty:Ty} {e:PE} (hr:Rep C.cap σ (.ref ty) (a.eval x) (e.ev ρ)) (hs:Nat.beq inf.size ty.size=true) (hag:(ag==ty.rowT)=true):
 eI C S ρ σ hv Φ dst a w o (.dat ty,[.setR dst (.deref e)]):=by
 obtain⟨k,off,v,y,bJ,bB,cK,kQ⟩:=hr.ref_inv;have eX:=aN hs;have aaT:ag=ty.rowT:=by simpa using hag
 have hz:=cK.size;have Er:=cK.rowOf;refine .dat (v:=v) (vD ho bJ ?_) ?_
 ·rw[Er,←aaT];refine MZ hi ha (by simp[hz,eX]) (fun e=>?_) (fun j u hu=>?_)
  ·subst e;simp[cK.cells1 aaT.symm]
  ·exact h.cell (kQ j u (by simpa using hu))
 ·simp only[PE.ev,bB,D.deref];exact cK
theorem Rep.dcells {cap:Nat→Option CSig}{t:Ty}{v:Value}{d:D}(h:Rep cap σ t v d)(ht:t.one=true):d.cells=[d]:=by
 cases h<;>simp_all [Ty.one,D.cells]
theorem ZB (h:Inv C S ρ σ own hv w0 σ0 A a w){j:Nat}{cs:List Value}{ds:List D}(hd:ρ.o j=.agg ds):
 ∀(aO:List Sh) (i:Nat) (r:List Ty×List PE),(∀m s,aO[m]?=some s→bf C S ρ σ hv s (cs.getD (i+m) undef) (ds.getD (i+m) .none))→yY S j aO i=some r→
  r.1.length=aO.length∧∃es,(PE.evc ρ r.2=es∧PE.evs ρ r.2=es)∧es.length=aO.length∧(∀m t,r.1[m]?=some t→t.one=true∧Rep C.cap σ t (cs.getD (i+m) undef) (es.getD m .none)):=by
 intro aO
 induction aO with
 |nil=>intro i r bn hr;simp[yY] at hr;subst hr;exact⟨rfl,[],⟨rfl,rfl⟩,rfl,by simp⟩
 |cons s aO ih=>
  intro i r bn hr;simp only[yY,aG] at hr;obtain⟨x,hx,hr⟩:=hr
  have AB:∀m s,aO[m]?=some s→bf C S ρ σ hv s (cs.getD (i+1+m) undef) (ds.getD (i+1+m) .none):=fun m s hm=>by
   have:=bn (m+1) s (by simpa using hm)
   rwa [show i+(m+1)=i+1+m by omega] at this
  obtain⟨l1,es,⟨he,sK⟩,l2,cK⟩:=ih (i+1) x AB hx;have h0:=bn 0 s rfl;simp only[sd] at h0;split at hr
  ·rename_i t;cases dJ:t.one<;>simp only[dJ,cond_true,cond_false] at hr
   ·cases hr
   ·cases hr;have dY:Rep C.cap σ t (cs.getD i undef) (ds.getD i .none):=h0;refine⟨by simp[l1],ds.getD i .none::es,⟨?_,by simp only[PE.evs,PE.ev,hd,D.c,D.cells,sK]⟩,by simp[l2],fun m t' hm=>?_⟩
    ·simp only[PE.evc,PE.ev,hd,D.c,D.cells,he];have:=dY.dcells dJ;simp only[D.cells] at this;rw[this];rfl
    ·cases m with
     |zero=>simp at hm;subst hm;exact⟨dJ,dY⟩
     |succ m=>simp at hm;have:=cK m t' hm;rwa [show i+1+m=i+(m+1) by omega] at this
  ·rename_i j' ver;cases hb:Nat.beq ver (S.ver j')<;>simp only[hb,cond_true,cond_false] at hr
   ·cases hr
   ·have fS:=aN hb;split at hr
    ·rename_i t eo;cases hr;have ho:=h.objs j';rw[eo] at ho;have dY:cs.getD i undef=hv j':=h0.2 fS;refine⟨by simp[l1],ρ.o j'::es,⟨?_,by simp only[PE.evs,PE.ev,sK]⟩,by simp[l2],fun m t' hm=>?_⟩
     ·simp only[PE.evc,PE.ev,he];rw[ho.2.dcells ho.1];rfl
     ·cases m with
      |zero=>simp at hm;subst hm;exact⟨ho.1,by rw[sd,dY];exact ho.2⟩
      |succ m=>simp at hm;have:=cK m t' hm;rwa [show i+1+m=i+(m+1) by omega] at this
    ·cases hr
  ·cases hr
theorem Pd {w:World}{k:Nat}{cs:Array Value}{T:TypeId}{fr:Nat×Nat}(hb:w.heap[k]?=some (.cells cs T fr)){i:Nat}(hi:i<cs.size):w.cell? ⟨k,i,none⟩=some (cs.getD i undef):=by
 simp[World.cell?,hb,hZ,j9 hi]
theorem Au (cs:Array Value)(i:Nat):cs.toList.getD i undef=cs.getD i undef:=by
 simp[bh,hZ]
theorem LF (h:Inv C S ρ σ own hv w0 σ0 A a w)(hC:CtxOK C σ0)(hg:holds gs ρ=true){T:TypeId}{x:Operand}{r:Sh×List PI}(hr:E3 C S gs dst T x=some r){o:Oper}(ho:o.op=.load T x):
 eI C S ρ σ hv Φ dst a w o r:=by
 unfold E3 at hr;split at hr
 case h_2=>cases hr
 rename_i inf ag hi ha;have eZ:bf C S ρ σ hv (kH S gs x) (a.eval x) ((vA x).ev ρ):=by
  cases x with
  |tmp t=>exact(tS h hg t).1
  |_=>trivial
 split at hr
 ·
  rename_i j ver off es;rw[es] at eZ;cases hb:Nat.beq ver (S.ver j)<;>simp only[hb,cond_true,cond_false] at hr
  ·cases hr
  have fS:=aN hb;obtain⟨k,fa,gi⟩:=eZ.2 fS;have bG:=h.objs j;split at hr
  ·rename_i bag aO eo;rw[eo] at bG;obtain⟨k',cs,T',ds,h1,h2,h3,h4,h5,h6,h7⟩:=bG;rw[fa] at h1;cases h1;cases ag with
   |true=>
    simp only[cond_true] at hr;cases hle:Nat.ble (off+inf.size) aO.length<;>simp only[hle,cond_true,cond_false] at hr
    ·cases hr
    have Kq:=l7 hle;simp only[aR] at hr;obtain⟨p,hp,rfl⟩:=hr
    obtain⟨l1,es,⟨he,_⟩,l2,cK⟩:=ZB h (cs:=cs.toList) h5 _ off p (fun m s hm=>by
     simp only[ia,iS] at hm;split at hm
     ·have:=(h7 (off+m) s hm).2;rw[Au];exact this
     ·cases hm) hp
    have hlen:((aO.drop off).take inf.size).length=inf.size:=by simp;omega
    refine .dat (v:=rowOf true ((cs.toList.drop off).take inf.size)) (vD ho gi (MZ hi ha (by simp;omega) (fun e=>by cases e) (fun m u hu=>?_))) ?_
    ·simp only[ia,iS] at hu;split at hu
     ·rename_i hm;have:=Pd h3 (i:=off+m) (by omega);rw[this,←Au];exact congrArg some (sF hu)
     ·cases hu
    ·simp only[PE.ev,rowOf,if_true,he];refine .agg _ _ _ (by simp;omega) (by omega) (fun m t hm=>?_) (fun m t hm=>(cK m t hm).1);have pS:m<inf.size:=by have:=(jh.1 hm).1;omega
     have:=(cK m t hm).2;simpa [bh,ia,iS,pS] using this
   |false=>
    simp only[cond_false] at hr;split at hr
    ·rename_i ty hs;cases dJ:ty.one<;>simp only[dJ,cond_true,cond_false] at hr
     ·cases hr
     cases hr;have pK:=(h7 off _ hs).2;have ar:off<aO.length:=(jh.1 hs).1;have xd:(loadVar T ⟨k,off,none⟩).run C.P w=.ok (cs.getD off undef) w:=by
      simp[loadVar,uX ha,run_load,Pd h3 (i:=off) (by omega)]
     refine .dat (v:=cs.getD off undef) (vD ho gi xd) ?_;simp only[PE.ev,h5,D.c,D.cells];exact pK
    ·rename_i j' rO hs;cases hr;have pK:=(h7 off _ hs).2;have ar:off<aO.length:=(jh.1 hs).1;have xd:(loadVar T ⟨k,off,none⟩).run C.P w=.ok (cs.getD off undef) w:=by
      simp[loadVar,uX ha,run_load,Pd h3 (i:=off) (by omega)]
     intro ρ' ay;exact⟨_,_,yw ay,vD ho gi xd,pK,fun _ _ e=>by cases e⟩
    ·cases hr
  ·rename_i ts eo;rw[eo] at bG;obtain⟨k',v,h1,h2,h3⟩:=bG;rw[fa] at h1;cases h1;simp only[aR] at hr;obtain⟨ty,bt,rfl⟩:=hr;obtain⟨vs,ds,rfl,hd,l1,l2,bn,dJ⟩:=h2.agg_inv;obtain⟨cK,hlen,pU⟩:=LK bt l1 l2 bn dJ;refine .dat (vD ho gi (MZ hi ha hlen (fun e=>by rw[hlen];exact pU e) (fun m u hu=>h.cell ?_))) (by rw[LJ (e:=.o j) hd];exact cK);simp only[ia,iS] at hu;split at hu
   ·exact h3 (off+m) u (by simpa [Value.cells] using hu)
   ·cases hu
  ·rename_i ty aA eo;rw[eo] at bG;obtain⟨k',v,h1,h2,h3⟩:=bG;rw[fa] at h1;cases h1;cases hc:(!ag&&ty.one&&Nat.beq off 0)<;>simp only[hc,cond_true,cond_false] at hr
   ·cases hr
   cases hr;simp only[az,lu] at hc;have jt:=aN hc.2;subst jt;have xd:(loadVar T ⟨k,0,none⟩).run C.P w=.ok v w:=by
        have:=h.cell (h3 0 v (by simp[(h2.oneCell hc.1.2).1]));rw[hc.1.1] at ha;simp[loadVar,uX ha,run_load,this]
   exact .dat (vD ho gi xd) h2
  ·cases hr
 ·
  rename_i j ver size off es;rw[es] at eZ;cases hb:Nat.beq ver (S.ver j)<;>simp only[hb,cond_true,cond_false] at hr
  ·cases hr
  have fS:=aN hb;obtain⟨k,n,c,ik,i,fa,uC,bU,gi⟩:=eZ.2 fS;have bG:=h.objs j;split at hr
  ·rename_i T' ts eo;rw[eo] at bG;obtain⟨cells,xs,h1,h2,⟨vs,h3,h4⟩,h5⟩:=bG;cases bp:Nat.beq size ts.length<;>simp only[bp,cond_true,cond_false] at hr
   ·cases hr
   have uS:=aN bp;simp only[aR] at hr;obtain⟨ty,bt,rfl⟩:=hr;rw[fa] at h2;have bA:=h2.cells (g:=k) rfl;obtain⟨b,c',e1,xf,qY⟩:=xR h2;cases e1;obtain⟨y,hy⟩:∃y,xs[i]?=some y:=⟨_,cl bU⟩
   have KE:=h3 i y hy;obtain⟨us,ds,Ba,hd,l1,l2,bn,dJ⟩:=KE.agg_inv;obtain⟨cK,hlen,pU⟩:=LK bt l1 l2 bn dJ;have apI:(PE.nth (.o j) (vA x)).ev ρ=.agg ds:=by
        simp only[PE.ev,h1,D.l_list,uC,D.i_int,vV];rw[sF hy,hd]
   refine .dat (vD ho gi (MZ hi ha hlen (fun e=>by rw[hlen];exact pU e) (fun m u hu=>?_))) (by rw[LJ apI];exact cK);simp only[ia,iS] at hu;split at hu
   ·have:=h4 i (off+m) u (by omega) (by rw[Ba];simpa [Value.cells] using hu);have:=bA _ _ this;rw[ui] at this;simpa [Ty.size,uS,He] using this
   ·cases hu
  ·rename_i T' e aA eo;rw[eo] at bG;obtain⟨cells,xs,h1,h2,⟨vs,h3,h4⟩,h5⟩:=bG;cases hc:(!ag&&e.one&&Nat.beq off 0&&Nat.beq size 1)<;>simp only[hc,cond_true,cond_false] at hr
   ·cases hr
   cases hr;simp only[az,lu] at hc;have jt:=aN hc.1.2;have bp:=aN hc.2;subst jt;subst bp;rw[fa] at h2;have bA:=h2.cells (g:=k) rfl;obtain⟨b,c',e1,xf,qY⟩:=xR h2;cases e1;obtain⟨y,hy⟩:∃y,xs[i]?=some y:=⟨_,cl bU⟩
   have KE:=h3 i y hy;have xd:(loadVar T ⟨k,i*1+0,none⟩).run C.P w=.ok (vs i) w:=by
        have h6:=h4 i 0 (vs i) bU (by simp[(KE.oneCell hc.1.1.2).1]);have:=bA _ _ h6;rw[ui] at this;have D1:e.size=1:=by cases e<;>simp_all [Ty.size,Ty.one]
        rw[hc.1.1.1] at ha;rw[D1] at this;simp only[mU,sd,Nat.mul_one] at this;simp[loadVar,uX ha,run_load,this]
   refine .dat (vD ho gi xd) ?_;simp only[PE.ev,h1,D.l_list,uC,D.i_int,vV];rw[sF hy];exact KE
  ·cases hr
 ·simp only[aG] at hr;obtain⟨p,hp,hr⟩:=hr;have bj:=cG h hC hg hp;split at hr
  ·rename_i ty e1;rw[e1] at bj;cases hc:(Nat.beq inf.size ty.size&&(ag==ty.rowT))<;>simp only[hc,cond_true,cond_false] at hr
   ·cases hr
   cases hr;simp only[az] at hc;exact atV h hi ha ho bj hc.1 hc.2
  ·cases hr
end
end Cx
namespace Cx
open Go Go.RowKit
section
variable {C:Ctx} {S:St} {ρ:Env} {σ:Im} {own:Nat→Option Nat} {hv:Nat→Value} {w0:World} {σ0:Base} {A:Nat→Prop} {a:Act} {w:World} {gs:List (Nat×Bool)} {Φ:aY} {dst:Nat}
theorem yz (h:Inv C S ρ σ own hv w0 σ0 A a w)(hg:holds gs ρ=true)(x:Operand):bf C S ρ σ hv (kH S gs x) (a.eval x) ((vA x).ev ρ)∧∀bZ s,kH S gs x≠.opt bZ s:=by
 cases x with
 |tmp t=>exact tS h hg t
 |_=>exact⟨trivial,fun _ _ e=>by cases e⟩
theorem aaf {P:Program}{T:TypeId}{i:Nat}{f:Field}(h:DH P T i=some f):∃fs,P.underlying T=some (.struct fs)∧fs[i]?=some f:=by
 unfold DH at h;split at h
 ·rename_i fs hu;exact⟨fs,hu,h⟩
 ·cases h
theorem UZ {o:Oper}{T:TypeId}{x:Operand}{i:Nat}{f:Field}{inf:TypeInfo}{k off:Nat}(ho:o.op=.fieldAddr T x i)(hf:DH C.P T i=some f)(hi:C.P.info? f.type=some inf)(hn:Nat.beq inf.size 0=false)
 (hx:a.eval x=.pointer (some ⟨k,off,none⟩)):(execOp a.eval o).run C.P w=.ok (.value (.pointer (some ⟨k,off+f.offset,none⟩))) w:=by
 obtain⟨fs,hu,uE⟩:=aaf hf;have iY:inf.size≠0:=by intro e;simp[e] at hn
 simp[execOp,ho,Instr.fieldAt,run_underlying hu,uE,hx,Instr.sureAddr,fieldPlace,Go.sizeOf,run_typeInfo w hi,iY,ui]
theorem atN (h:Inv C S ρ σ own hv w0 σ0 A a w)(hC:CtxOK C σ0)(hg:holds gs ρ=true){T:TypeId}{x:Operand}{i:Nat}{r:Sh×List PI}(hr:SG C S gs dst T x i=some r){o:Oper}(ho:o.op=.fieldAddr T x i):
 eI C S ρ σ hv Φ dst a w o r:=by
 simp only[SG,aG] at hr;obtain⟨f,hf,hr⟩:=hr;obtain⟨eZ,eA⟩:=yz h hg x;split at hr
 case h_2=>cases hr
 rename_i inf ag hi ha;cases hn:Nat.beq inf.size 0<;>simp only[hn,cond_true,cond_false] at hr
 case true=>cases hr
 split at hr
 ·rename_i j ver size off es;cases hb:Nat.beq ver (S.ver j)<;>simp only[hb,cond_true,cond_false] at hr
  ·cases hr
  cases hr;rw[es] at eZ;intro ρ' ay;obtain⟨k,n,c,ik,idx,fa,uC,bU,gi⟩:=eZ.2 (aN hb);exact⟨_,_,yw ay,UZ ho hf hi hn gi,⟨eZ.1,fun _=>⟨k,n,c,ik,idx,fa,uC,bU,by rw[He]⟩⟩,fun _ _ e=>by cases e⟩
 ·split at hr
  ·rename_i ts e hu;have bj:=cG h hC hg hu;simp only[aR] at hr;obtain⟨ty,bt,rfl⟩:=hr;obtain⟨k,off,v,y,bJ,bB,cK,kQ⟩:=Rep.ref_inv bj;obtain⟨vs,ds,rfl,rfl,l1,l2,bn,dJ⟩:=cK.agg_inv;obtain⟨q5,hlen,pU⟩:=LK bt l1 l2 bn dJ;refine .dat (UZ ho hf hi hn bJ) ?_;have Kd:(PE.deref e).ev ρ=.agg ds:=by simp only[PE.ev,bB,D.deref]
   simp only[PE.ev];rw[LJ Kd];refine .ref ty k (off+f.offset) _ _ q5 (fun j u hu=>?_);have kU:((vs.drop f.offset).take inf.size)[j]?=some u:=by
        cases ag with
        |true=>simpa [rowOf,Value.cells] using hu
        |false=>
         have:=pU rfl;rw[this] at hlen ⊢;obtain⟨q,hq⟩:∃q,(vs.drop f.offset).take 1=[q]:=by
          match(vs.drop f.offset).take 1,hlen with
          |[q],_=>exact⟨q,rfl⟩
         rw[this] at q5 hu;rw[hq] at q5 hu ⊢;simp only[rowOf,vW] at q5 hu;have uO:ty.rowT=false:=by
          unfold vj at bt;cases hle:Nat.ble (f.offset+inf.size) ts.length<;>simp only[hle,cond_true,cond_false] at bt
          ·cases bt
          ·cases hb:Nat.beq inf.size 1<;>simp only[hb,cond_true,cond_false] at bt
           ·cases bt
           ·have:=dJ _ _ bt;cases ty<;>simp_all [Ty.one,Ty.rowT]
         rw[q5.cells1 uO] at hu;simpa using hu
   simp only[ia,iS] at kU;split at kU
   ·have:=kQ (f.offset+j) u (by simpa [Value.cells] using kU)
    rwa [←He] at this
   ·cases kU
  ·split at hr
   ·rename_i j ver off es;cases hb:Nat.beq ver (S.ver j)<;>simp only[hb,cond_true,cond_false] at hr
    ·cases hr
    cases hr;rw[es] at eZ;intro ρ' ay;obtain⟨k,fa,gi⟩:=eZ.2 (aN hb);exact⟨_,_,yw ay,UZ ho hf hi hn gi,⟨eZ.1,fun _=>⟨k,fa,rfl⟩⟩,fun _ _ e=>by cases e⟩
   ·cases hr
theorem atO (h:Inv C S ρ σ own hv w0 σ0 A a w)(hC:CtxOK C σ0)(hg:holds gs ρ=true){T:TypeId}{x:Operand}{i:Nat}{r:Sh×List PI}(hr:SF C S gs dst T x i=some r){o:Oper}(ho:o.op=.field T x i):
 eI C S ρ σ hv Φ dst a w o r:=by
 simp only[SF,aG] at hr;obtain⟨f,hf,hr⟩:=hr;split at hr
 case h_2=>cases hr
 rename_i inf ag hi ha;split at hr
 case h_2=>cases hr
 rename_i ts e hu;have bj:=cG h hC hg hu;simp only[aR] at hr;obtain⟨ty,bt,rfl⟩:=hr;obtain⟨vs,ds,bJ,bB,l1,l2,bn,dJ⟩:=Rep.agg_inv bj;obtain⟨q5,hlen,pU⟩:=LK bt l1 l2 bn dJ;obtain⟨fs,kU,uE⟩:=aaf hf;have hle:f.offset+inf.size≤ts.length:=by
  unfold vj at bt;cases hle:Nat.ble (f.offset+inf.size) ts.length<;>simp only[hle,cond_true,cond_false] at bt
  ·cases bt
  ·exact l7 hle
 refine .dat (v:=rowOf ag ((vs.drop f.offset).take inf.size)) ?_ (by rw[LJ bB];exact q5);cases ag with
 |true=>
  simp only[execOp,ho,Instr.field,bJ,asAgg,part];simp[run_underlying kU,uE,uX ha,Go.sizeOf,run_typeInfo w hi,rowOf]
 |false=>
  have hn:=pU rfl;have ar:f.offset<vs.length:=by omega
  simp only[execOp,ho,Instr.field,bJ,asAgg,part];simp[run_underlying kU,uE,uX ha,rowOf,hn,cl ar,bh,ia,iS]
theorem ahA {o:Oper}{T e:TypeId}{x i:Operand}{inf:TypeInfo}{k off n c idx:Nat}{ik:IntKind}(ho:o.op=.indexAddr T x i)(hT:C.P.underlying T=some (.slice e))(hi:C.P.info? e=some inf)
 (hx:a.eval x=.slice (some ⟨k,off,none⟩) n c) (ao4:a.eval i=.int ik idx) (ar:idx<n):(execOp a.eval o).run C.P w=.ok (.value (.pointer (some ⟨k,off+idx*inf.size,none⟩))) w:=by
 simp[execOp,ho,Instr.indexAt,run_underlying hT,hx,ao4,asIntOf,ar,Go.sizeOf,run_typeInfo w hi,ui]
theorem M4 {P:Program}{T:TypeId}{t:Ty}(h:rE P T t=true):∃inf,P.info? T=some inf∧inf.size=t.size:=by
 unfold rE at h;split at h
 ·rename_i i hi;exact⟨i,hi,aN h⟩
 ·cases h
theorem atQ (h:Inv C S ρ σ own hv w0 σ0 A a w)(hC:CtxOK C σ0)(hg:holds gs ρ=true){T:TypeId}{x i:Operand}{r:Sh×List PI}(hr:SJ C S gs dst T x i=some r){o:Oper}(ho:o.op=.indexAddr T x i):
 eI C S ρ σ hv Φ dst a w o r:=by
 unfold SJ at hr;split at hr
 case h_2=>cases hr
 rename_i e hT;simp only[aG] at hr;obtain⟨p,hp,hr⟩:=hr;have bj:=cG h hC hg hp;split at hr
 case h_2=>cases hr
 rename_i ik e1;rw[e1] at bj;obtain⟨idx,bJ,bB,b1,b2⟩:=bj.int_inv;split at hr
 ·rename_i t pe hu;have du:=cG h hC hg hu;cases bp:rE C.P e t<;>simp only[bp,cond_true,cond_false] at hr
  ·cases hr
  cases hr;obtain⟨inf,hi,hs⟩:=M4 bp;obtain⟨xs,hd,AF⟩:=Rep.slice_inv du;refine .datc hg fun hc=>?_;simp only[PE.ev,hd,bB,D.l_list,D.i_int,D.b_bool,decide_eq_true_eq] at hc;rcases AF with⟨_,rfl⟩|⟨k,off,c,uT,h1,h2,vs,h3,h4⟩
  ·simp at hc;omega
  ·obtain⟨m,rfl⟩:=qy hc.1;have ar:m<xs.length:=by omega
   refine⟨_,ahA ho hT hi uT bJ ar,?_⟩;obtain⟨y,hy⟩:∃y,xs[m]?=some y:=⟨_,cl ar⟩
   simp only[PE.ev,hd,bB,D.l_list,D.i_int,vV,sF hy];exact .ref t.unf k _ (vs m) y (h3 m y hy) (fun j u hu=>by rw[hs];exact h4 m j u ar hu)
 ·cases hr
 ·obtain⟨eZ,eA⟩:=yz h hg x;split at hr
  ·rename_i j ver es;rw[es] at eZ;cases hb:Nat.beq ver (S.ver j)<;>simp only[hb,cond_true,cond_false] at hr
   ·cases hr
   have fS:=aN hb;have bG:=h.objs j;have cS:=eZ.2 fS;split at hr
   ·rename_i T' t eo;rw[eo] at bG;cases bp:rE C.P e t<;>simp only[bp,cond_true,cond_false] at hr
    ·cases hr
    cases hr;obtain⟨inf,hi,hs⟩:=M4 bp;obtain⟨cells,xs,h1,h2,⟨vs,h3,h4⟩,h5⟩:=bG;intro ρ' ay;obtain⟨hc,hρ⟩:=U0 hg ay;simp only[PE.ev,h1,bB,D.l_list,D.i_int,D.b_bool,decide_eq_true_eq] at hc;obtain⟨m,rfl⟩:=qy hc.1;have ar:m<xs.length:=by omega
    rcases h2.2 with⟨_,e0⟩|⟨g,cap,cur,fa,_⟩
    ·omega
    ·refine⟨_,_,hρ,ahA ho hT hi (cS.trans fa) bJ ar,⟨by omega,fun _=>⟨g,xs.length,cap,ik,m,fa,bB,ar,?_⟩⟩,fun _ _ e=>by cases e⟩;rw[hs];simp
   ·cases hr
  ·cases hr
theorem atT (h:Inv C S ρ σ own hv w0 σ0 A a w)(hC:CtxOK C σ0)(hg:holds gs ρ=true){T:TypeId}{x i:Operand}{r:Sh×List PI}(hr:SI C S gs dst T x i=some r){o:Oper}(ho:o.op=.index T x i):
 eI C S ρ σ hv Φ dst a w o r:=by
 unfold SI at hr;split at hr
 case h_2=>cases hr
 rename_i hT;simp only[aG] at hr;obtain⟨p,hp,q,hq,hr⟩:=hr;have bj:=cG h hC hg hp;have dK:=cG h hC hg hq;split at hr
 case h_2=>cases hr
 rename_i ik e1 e2;rw[e1] at bj;rw[e2] at dK;obtain⟨idx,bJ,bB,b1,b2⟩:=bj.int_inv;obtain⟨s,iI,dy,_⟩:=dK.str_inv;cases hr;refine .datc hg fun hc=>?_;simp only[PE.ev,dy,bB,D.s_str,D.i_int,D.b_bool,decide_eq_true_eq] at hc;obtain⟨m,rfl⟩:=qy hc.1;have ar:m<s.size:=by omega
 refine⟨.int .u8 (s.data.getD m 0).toNat,?_,?_⟩
 ·have:s[m]?=some (s.data.getD m 0):=by
   rw[getElem?_pos s m ar];simp[ByteArray.getElem_eq_getElem_data,hZ,j9 (show m<s.data.size from ar)]
  simp[execOp,ho,Instr.index,run_underlying hT,bJ,iI,asIntOf,this]
 ·simp only[PE.ev,dy,bB,D.s_str,D.i_int,vV];refine .int _ _ ?_ ?_
  ·simp only[IntKind.min,IntKind.signed];simp
  ·simp only[IntKind.max,IntKind.signed,IntKind.bits];have:=UInt8.toNat_lt (s.data.getD m 0);simp at this ⊢;omega
end
end Cx
namespace Cx
open Go Go.RowKit
section
variable {C:Ctx} {S:St} {ρ:Env} {σ:Im} {own:Nat→Option Nat} {hv:Nat→Value} {w0:World} {σ0:Base} {A:Nat→Prop} {a:Act} {w:World} {gs:List (Nat×Bool)} {Φ:aY} {dst:Nat}
theorem aAd (h:Inv C S ρ σ own hv w0 σ0 A a w)(hC:CtxOK C σ0)(hg:holds gs ρ=true){lo:Option Operand}{l:Ty×PE}{k:IntKind}(hl:Yk C S gs lo=some l)(hk:l.1=.int k):
 ∃n,l.2.ev ρ=.v (.int k n)∧((lo=none∧n=0)∨∃x,lo=some x∧a.eval x=.int k n):=by
 cases lo with
 |none=>simp[Yk] at hl;subst hl;simp at hk;subst hk;exact⟨0,rfl,.inl ⟨rfl,rfl⟩⟩
 |some x=>
  have:=cG h hC hg hl;rw[hk] at this;obtain⟨n,h1,h2,_⟩:=this.int_inv;exact⟨n,h2,.inr ⟨x,rfl,h1⟩⟩
theorem aAc (h:Inv C S ρ σ own hv w0 σ0 A a w)(hC:CtxOK C σ0)(hg:holds gs ρ=true){e:PE}{hi:Option Operand}{l:Ty×PE}{k:IntKind}(hl:Yj C S gs e hi=some l)(hk:l.1=.int k):
 ∃n,l.2.ev ρ=.v (.int k n)∧((hi=none∧n=(e.ev ρ).l.length)∨∃x,hi=some x∧a.eval x=.int k n):=by
 cases hi with
 |none=>simp[Yj] at hl;subst hl;simp at hk;subst hk;exact⟨_,rfl,.inl ⟨rfl,rfl⟩⟩
 |some x=>
  have:=cG h hC hg hl;rw[hk] at this;obtain⟨n,h1,h2,_⟩:=this.int_inv;exact⟨n,h2,.inr ⟨x,rfl,h1⟩⟩
theorem run_sliceBound {P:Program}{x:Value}{y i:Nat}{k:IntKind}{code:BoundsCode}{w:World}(hx:x=.int k i)(h:i≤y):(Instr.sliceBound x y code).run P w=.ok i w:=by
 subst hx;simp[Instr.sliceBound,asIntOf,h]
theorem at0 (h:Inv C S ρ σ own hv w0 σ0 A a w)(hC:CtxOK C σ0)(hg:holds gs ρ=true){T:TypeId}{x:Operand}{lo hi mx:Option Operand}{r:Sh×List PI}(hr:SO C S gs dst T x lo hi mx=some r){o:Oper}(ho:o.op=.slice T x lo hi mx):
 eI C S ρ σ hv Φ dst a w o r:=by
 unfold SO at hr;split at hr
 case h_3=>cases hr
 case h_2=>
  rename_i n e hT;split at hr
  case h_2=>cases hr
  simp only[aG] at hr;obtain⟨p,hp,hr⟩:=hr;have bj:=cG h hC hg hp;split at hr
  case h_2=>cases hr
  rename_i t ts e1;cases hc:(Nat.beq n (ts.length+1)&&ts.all (Ty.beq t)&&t.one&&rE C.P e t&&Nat.ble n maxLen)<;>simp only[hc,cond_true,cond_false] at hr
  ·cases hr
  cases hr;simp only[az] at hc;obtain⟨⟨⟨⟨c1,c2⟩,c3⟩,c4⟩,c5⟩:=hc;have hn:=aN c1;have hm:=l7 c5;obtain⟨inf,oh,hs⟩:=M4 c4;rw[e1] at bj;obtain⟨k,off,x0,y,uT,hd,hr0,kQ⟩:=bj.ref_inv;obtain⟨vs,ds,rfl,rfl,l1,l2,jo,_⟩:=hr0.agg_inv
  have bn:∀(i:Nat),i<n→(t::ts)[i]?=some t:=fun i hi=>by
   cases i with
   |zero=>rfl
   |succ i=>
    have ar:i<ts.length:=by omega
    rw[YM,cl ar];rw[Ty.beq_eq _ _ (fl.1 c2 _ (cv ar))]
  have Qw:vs.length=n:=by rw[l1,hn];rfl
  have hld:ds.length=n:=by rw[l2,hn];rfl
  have dJ:t.size=1:=by cases t<;>simp_all [Ty.one,Ty.size]
  refine eI.dat (v:=.slice (some ⟨k,off,none⟩) n n) ?_ ?_
  ·have:Addr.add ⟨k,off,none⟩ 0=⟨k,off,none⟩:=by simp[Addr.add]
   simp[execOp,ho,Instr.sliceAt,run_underlying hT,uT,Instr.sureAddr,Instr.sliceBounds,Go.sizeOf,run_typeInfo w oh,this]
  ·have apq:(PE.lst ((List.range n).map fun i=>.cell (.deref p.2) i)).ev ρ=.list ds:=by
        simp only[PE.ev]
        congr 1
        have cf:∀l:List PE,PE.evs ρ l=l.map fun e=>e.ev ρ:=fun l=>by induction l with|nil=>rfl|cons e l ih=>simp[PE.evs,ih]
        rw[cf,NX];apply YK;intro i;rw[dG];by_cases hi:i<n
        ·rw[qz hi,cl (by omega)];simp only[ly,Function.comp,PE.ev,hd,D.deref,D.c,D.cells];rw[bh,cl (by omega)];rfl
        ·rw[rX (by simp;omega),rX (by omega)];rfl
   rw[apq];refine .slice t k off n n ds (fun i=>vs.getD i undef) hld (bK _) hm (fun i x hx=>?_) (fun i j u hi hu=>?_)
   ·have ar:i<n:=by rw[←hld];exact(jh.1 hx).1
    have:=jo i t (bn i ar);rw[sF hx] at this;exact this.unf
   ·have h1:=(jo i t (bn i hi)).oneCell c3;rw[h1.1] at hu;cases j with
    |zero=>
     simp at hu;have:=kQ i (vs.getD i undef) (by
      simp only[Value.cells];rw[Hc,cl (by omega),bh,cl (by omega)];rfl)
     rw[dJ,←hu];simpa using this
    |succ j=>simp at hu
 rename_i e hT;simp only[aG] at hr;obtain⟨p,hp,hr⟩:=hr;have bj:=cG h hC hg hp;split at hr
 case h_2=>cases hr
 rename_i t e1;rw[e1] at bj;simp only[aG] at hr;obtain⟨l,hl,u,hu,hr⟩:=hr;split at hr
 case h_2=>cases hr
 rename_i k1 k2 e2 e3;cases bp:rE C.P e t<;>simp only[bp,cond_true,cond_false] at hr
 ·cases hr
 cases hr;obtain⟨inf,oh,hs⟩:=M4 bp;obtain⟨n1,bB,xc⟩:=aAd h hC hg hl e2;obtain⟨n2,dy,Qr⟩:=aAc h hC hg hu e3;obtain⟨xs,hd,AF⟩:=Rep.slice_inv bj;refine .datc hg fun hc=>?_;simp only[PE.ev,hd,bB,dy,D.l_list,D.i_int,D.b_bool,decide_eq_true_eq] at hc;obtain⟨m1,rfl⟩:=qy hc.1;obtain⟨m2,rfl⟩:=qy (show 0≤n2 by omega);have mj:m1≤m2:=by omega
 have h2l:m2≤xs.length:=by omega
 have aa3:∀c,xs.length≤c→(Instr.sliceBounds true xs.length c (lo.map a.eval) (hi.map a.eval) none).run C.P w=.ok (m1,m2,c) w:=by
  intro c iX
  have hh:∀code,(match hi.map a.eval with|some v=>Instr.sliceBound v c code|none=>(pure xs.length:Sem Nat)).run C.P w=.ok m2 w:=by
   intro code;rcases Qr with⟨rfl,e⟩|⟨y,rfl,e⟩
   ·rw[hd,D.l_list] at e;simp;omega
   ·simp only[ly];exact run_sliceBound e (by omega)
  have Qv:∀code,(match lo.map a.eval with|some v=>Instr.sliceBound v m2 code|none=>(pure 0:Sem Nat)).run C.P w=.ok m1 w:=by
   intro code;rcases xc with⟨rfl,e⟩|⟨y,rfl,e⟩
   ·simp;omega
   ·simp only[ly];exact run_sliceBound e mj
  have AO:=hh .sliceAcap;have abD:=Qv .sliceB;unfold Instr.sliceBounds;cases hi<;>cases lo<;>simp at AO abD ⊢<;>simp[AO,abD]
 rcases AF with⟨⟨p0,uT⟩,rfl⟩|⟨k,off,c,uT,h1,h2,vs,h3,h4⟩
 ·have:m2=0:=by simpa using h2l
  have:m1=0:=by omega
  subst_vars
  refine⟨.slice p0 0 0,?_,?_⟩
  ·have hb:=aa3 0 (bK _);simp only[qA] at hb;cases p0 with
   |none=>simp[execOp,ho,Instr.sliceAt,Instr.slice,run_underlying hT,uT,hb,Go.sizeOf,run_typeInfo w oh]
   |some a0=>simp[execOp,ho,Instr.sliceAt,Instr.slice,run_underlying hT,uT,hb,Go.sizeOf,run_typeInfo w oh]
  ·simp only[PE.ev,hd,bB,dy,D.l_list,D.i_int];cases p0 with
   |none=>exact .nil t
   |some a0=>exact .emp t a0
 ·refine⟨.slice (some (if c=m1 then⟨k,off,none⟩ else⟨k,off+m1*inf.size,none⟩)) (m2-m1) (c-m1),?_,?_⟩
  ·have hb:=aa3 c h1;simp only[execOp,ho,Option.map_none,Instr.sliceAt,run_underlying hT,uT];simp[run_underlying hT,Instr.slice,hb,Go.sizeOf,run_typeInfo w oh,ui];split<;>simp
  ·simp only[PE.ev,hd,bB,dy,D.l_list,D.i_int,vV];have hlen:((xs.take m2).drop m1).length=m2-m1:=by simp;omega
   have jo:∀(i:Nat) (y:D),((xs.take m2).drop m1)[i]?=some y→xs[m1+i]?=some y:=by
        intro i y hy;simp only[iS,ia] at hy;split at hy
        ·exact hy
        ·cases hy
   have kQ:∀(i j:Nat) (v:Value),i<m2-m1→(vs (m1+i)).cells[j]?=some v→σ.c k (off+m1*inf.size+i*t.size+j)=some v:=by
        intro i j v hi hj;have:=h4 (m1+i) j v (by omega) hj;rw[ph] at this;rw[hs]
        rwa [←He] at this
   split
   ·rename_i lF;refine .slice t k off (m2-m1) (c-m1) _ (fun i=>vs (m1+i)) hlen (by omega) (by omega) (fun i y hy=>h3 _ _ (jo i y hy)) (fun i j v hi hj=>by omega)
   ·exact .slice t k (off+m1*inf.size) (m2-m1) (c-m1) _ (fun i=>vs (m1+i)) hlen (by omega) (by omega) (fun i y hy=>h3 _ _ (jo i y hy)) kQ
theorem aiU (h:Inv C S ρ σ own hv w0 σ0 A a w)(hC:CtxOK C σ0)(hg:holds gs ρ=true):∀(xs:List Operand) (r:List Ty×List PE),rN C S gs xs=some r→
 r.1.length=xs.length∧r.2.length=xs.length∧∀(i:Nat) (t:Ty),r.1[i]?=some t→Rep C.cap σ t ((xs.map a.eval).getD i undef) ((PE.evs ρ r.2).getD i .none):=by
 intro xs
 induction xs with
 |nil=>intro r hr;simp[rN] at hr;subst hr;exact⟨rfl,rfl,by simp⟩
 |cons x xs ih=>
  intro r hr;simp only[rN,aG,aR] at hr;obtain⟨p,hp,q,hq,rfl⟩:=hr;obtain⟨l1,l2,bn⟩:=ih q hq;refine⟨by simp[l1],by simp[l2],fun i t hi=>?_⟩;cases i with
  |zero=>simp at hi;subst hi;simpa [PE.evs] using cG h hC hg hp
  |succ i=>simp at hi;simpa [PE.evs] using bn i t hi
theorem atP (h:Inv C S ρ σ own hv w0 σ0 A a w)(hC:CtxOK C σ0)(hg:holds gs ρ=true){fn:Fn}{first caps:Array Operand}{r:Sh×List PI}(hr:SH C S gs dst fn first caps=some r){o:Oper}(ho:o.op=.makeFunc fn first caps):
 eI C S ρ σ hv Φ dst a w o r:=by
 unfold SH at hr;split at hr
 case h_2=>cases hr
 rename_i f Qm;have hf0:first=#[]:=by simpa using Qm
 subst hf0;simp only[aG] at hr;obtain⟨cs,jV,p,hp,hr⟩:=hr;cases hb:Ty.subs p.1 cs.caps<;>simp only[hb,cond_true,cond_false] at hr
 ·cases hr
 cases hr;obtain⟨l1,l2,bn⟩:=aiU h hC hg _ _ hp;have hl:=Ty.subs_len _ _ hb;refine .dat (v:=.func (.func f) #[] (caps.map a.eval)) ?_ ?_
 ·simp[execOp,ho,Instr.makeFunc]
 ·simp only[PE.ev];have:caps.map a.eval=(caps.toList.map a.eval).toArray:=by apply NF;rw[G8]
  rw[this];have e1:(caps.toList.map a.eval).length=cs.caps.length:=by rw[nU];omega
  have e2:(PE.evs ρ p.2).length=cs.caps.length:=by rw[PE.evs_eq,nU];omega
  refine .fn f cs _ _ jV e1 e2 (fun i t hi=>?_);obtain⟨s,hs,dt⟩:=Ty.subs_get _ _ hb i t hi;exact(bn i s hs).sub dt
theorem atX (h:Inv C S ρ σ own hv w0 σ0 A a w)(hC:CtxOK C σ0)(hg:holds gs ρ=true){x:Operand}{r:Sh×List PI}(hr:SM C S gs dst x=some r){o:Oper}(ho:o.op=.nilCheck x):
 eI C S ρ σ hv Φ dst a w o r:=by
 have ay:∀k off,a.eval x=.pointer (some ⟨k,off,none⟩)→(execOp a.eval o).run C.P w=.ok (.value (a.eval x)) w:=by
  intro k off e;simp[execOp,ho,e]
 unfold SM at hr;split at hr
 ·rename_i t e hu;cases hr;have bj:=cG h hC hg hu;obtain⟨k,off,v,y,bJ,bB,cK,kQ⟩:=Rep.ref_inv bj;exact .dat (ay k off bJ) bj
 ·split at hr
  ·rename_i t _;obtain⟨hs,eA⟩:=tS h hg t;split at hr
   ·rename_i j ver off es;rw[es] at hs;cases hb:Nat.beq ver (S.ver j)<;>simp only[hb,cond_true,cond_false] at hr
    ·cases hr
    cases hr;obtain⟨k,fa,gi⟩:=hs.2 (aN hb);intro ρ' Ep;exact⟨_,_,yw Ep,ay k off gi,hs,fun _ _ e=>by cases e⟩
   ·rename_i j ver sz off es;rw[es] at hs;cases hb:Nat.beq ver (S.ver j)<;>simp only[hb,cond_true,cond_false] at hr
    ·cases hr
    cases hr;have eY:=hs;obtain⟨k,n,c,ik,i,fa,uC,bU,gi⟩:=hs.2 (aN hb);intro ρ' Ep;exact⟨_,_,yw Ep,ay _ _ gi,eY,fun _ _ e=>by cases e⟩
   ·cases hr
  ·cases hr
theorem ai1 {cap:Nat→Option CSig}{t:Ty}{z:Ty×D}{v:Value}(h:qv t=some z)(hz:yG t v=true):Rep cap σ z.1 v z.2∧z.1.one=true∧Ty.sub z.1 t=true:=by
 unfold yG at hz;split at hz
 ·simp at hz;obtain⟨rfl,rfl⟩:=hz;simp[qv] at h;subst h;exact⟨.int _ 0 (by rename_i k;cases k<;>decide) (by rename_i k;cases k<;>decide),rfl,by simp[Ty.sub,Ty.beq]⟩
 ·simp at hz;subst hz;simp[qv] at h;subst h;exact⟨.bool false,rfl,rfl⟩
 ·rename_i s;have:s=ByteArray.empty:=by
   have:s.size=0:=by simpa using hz
   cases s with|mk d=>simp[ByteArray.size] at this;subst this;rfl
  subst this;simp[qv] at h;subst h;exact⟨.str _ (by decide),rfl,rfl⟩
 ·simp[qv] at h;subst h;exact⟨.nils _,rfl,rfl⟩
 ·simp[qv] at h;subst h;refine⟨.mapnil _ _,rfl,?_⟩;simp only[Ty.sub];exact Ty.beq_refl _
 ·simp[qv] at h;subst h;exact⟨.fnnil _ _,rfl,by simp only[Ty.sub];exact Ty.beq_refl _⟩
 ·cases hz
end
end Cx
namespace Cx
open Go Go.RowKit
theorem mapM_some {α β:Type}(f:α→Option β):∀(l:List α) (r:List β),l.mapM f=some r→r.length=l.length∧∀(i:Nat) (x:α),l[i]?=some x→∃y,r[i]?=some y∧f x=some y
 |[],r,h=>by simp at h;subst h;exact⟨rfl,by simp⟩
 |x::l,r,h=>by
  simp only[YO,Option.bind_eq_bind,aG] at h;obtain⟨y,hy,ys,uU,h⟩:=h;cases h;obtain⟨h1,h2⟩:=mapM_some f l ys uU;refine⟨by simp[h1],fun i z hi=>?_⟩;cases i with
  |zero=>simp at hi;subst hi;exact⟨y,rfl,hy⟩
  |succ i=>simp at hi;simpa using h2 i z hi
theorem Yu:∀(ts:List Ty) (vs:List Value),Ce ts vs=true→vs.length=ts.length∧∀(i:Nat) (t:Ty),ts[i]?=some t→∃v,vs[i]?=some v∧yG t v=true
 |[],vs,h=>by cases vs<;>simp_all [Ce]
 |t::ts,vs,h=>by
  cases vs with
  |nil=>simp[Ce] at h
  |cons v vs=>
   simp only[Ce,az] at h;obtain⟨h1,h2⟩:=Yu ts vs h.2;refine⟨by simp[h1],fun i u hi=>?_⟩;cases i with
   |zero=>simp at hi;subst hi;exact⟨v,rfl,h.1⟩
   |succ i=>simp at hi;simpa using h2 i u hi
theorem yH {cap:Nat→Option CSig}{σ:Im}{t:Ty}{z:Ty×D}{v:Value}(h:oU t=some z)(hz:jL t v=true):Rep cap σ z.1 v z.2∧Ty.sub z.1 t=true∧z.1.one=t.one:=by
 cases t with
 |agg ts=>
  simp only[oU,aR] at h;obtain⟨zs,sZ,rfl⟩:=h;cases v with
  |agg vs=>
   simp only[jL] at hz;obtain⟨l1,h1⟩:=Yu ts vs.toList hz;obtain⟨l2,h2⟩:=mapM_some _ _ _ sZ;have key:∀(i:Nat) (t:Ty),ts[i]?=some t→∃y v,zs[i]?=some y∧vs.toList[i]?=some v∧Rep cap σ y.1 v y.2∧y.1.one=true∧Ty.sub y.1 t=true:=by
      intro i t hi;obtain⟨y,hy,EF⟩:=h2 i t hi;obtain⟨v,hv,iI⟩:=h1 i t hi;obtain⟨g1,g2,g3⟩:=ai1 (cap:=cap) (σ:=σ) EF iI;exact⟨y,v,hy,hv,g1,g2,g3⟩
   have cR:∀(ts:List Ty) (zs:List (Ty×D)),zs.length=ts.length→(∀(i:Nat) (t:Ty),ts[i]?=some t→∃y,zs[i]?=some y∧Ty.sub y.1 t=true)→Ty.subs (zs.map (·.1)) ts=true:=by
      intro ts
      induction ts with
      |nil=>intro zs hl _;cases zs<;>simp_all [Ty.subs]
      |cons t ts ih=>
       intro zs hl hh;cases zs with
       |nil=>simp at hl
       |cons z zs=>
        simp only[jN,Ty.subs,az];refine⟨?_,ih zs (by simpa using hl) fun i u hu=>by simpa using hh (i+1) u (by simpa using hu)⟩;obtain⟨y,hy,EF⟩:=hh 0 t rfl;simp at hy;subst hy;exact EF
   refine⟨?_,?_,rfl⟩
   ·have:vs=vs.toList.toArray:=by simp
    rw[this];refine .agg _ _ _ (by rw[nU];omega) (by simp) (fun i t hi=>?_) (fun i t hi=>?_)
    ·simp only[dG,aR] at hi;obtain⟨q,hq,rfl⟩:=hi;obtain⟨t',Q5⟩:∃t',ts[i]?=some t':=⟨_,cl (by have:=(jh.1 hq).1;omega)⟩
     obtain⟨y,v,hy,hv,g1,g2,g3⟩:=key i t' Q5;rw[hq] at hy;cases hy;rw[sF hv,sF (show(zs.map (·.2))[i]?=some q.2 by simp[hq])];exact g1
    ·simp only[dG,aR] at hi;obtain⟨q,hq,rfl⟩:=hi;obtain⟨t',Q5⟩:∃t',ts[i]?=some t':=⟨_,cl (by have:=(jh.1 hq).1;omega)⟩
     obtain⟨y,v,hy,hv,g1,g2,g3⟩:=key i t' Q5;rw[hq] at hy;cases hy;exact g2
   ·simp only[Ty.sub];exact cR ts zs l2 fun i t hi=>by obtain⟨y,v,hy,hv,g1,g2,g3⟩:=key i t hi;exact⟨y,hy,g3⟩
  |_=>simp[jL] at hz
 |_=>
  obtain⟨g1,g2,g3⟩:=ai1 (cap:=cap) (σ:=σ) (by simpa [oU] using h) (by simpa [jL] using hz);exact⟨g1,g3,(Ty.sub_one _ _ g3).1⟩
theorem aj6 {a b:ByteArray}(h:(a==b)=true):a=b:=by
 cases a with|mk x=>cases b with|mk y=>
 have:(x==y)=true:=h;rw[eq_of_beq this]
theorem aj7 (a:ByteArray):(a==a)=true:=by
 cases a with|mk x=>
 show(x==x)=true;simp
theorem Rm {P:Program}{K:TypeId}{kt:Ty}(hk:p7 P K kt=true):
 (∃k k',kt=.int k∧P.underlying K=some (.int k'))∨(kt=.str∧P.underlying K=some .string)∨(kt=.bool∧P.underlying K=some .bool):=by
 unfold p7 at hk;split at hk
 ·split at hk
  ·exact .inl ⟨_,_,rfl,by assumption⟩
  ·cases hk
 ·split at hk
  ·exact .inr (.inl ⟨rfl,by assumption⟩)
  ·cases hk
 ·split at hk
  ·exact .inr (.inr ⟨rfl,by assumption⟩)
  ·cases hk
 ·cases hk
theorem amm {cap:Nat→Option CSig}{σ:Im}{P:Program}{K:TypeId}{kt:Ty}{desc:TypeDesc}(hk:p7 P K kt=true)(hu:P.underlying K=some desc){v:Value}{d:D}(hv:Rep cap σ kt v d):
 ∀(es:List MapEntry) (ds:List (D×D)) (i:Nat),ds.length=es.length→(∀(j:Nat) (e:MapEntry) (p:D×D),es[j]?=some e→ds[j]?=some p→Rep cap σ kt e.key p.1)→
  (Instr.findNow desc v es i=some none∧∀(j:Nat) (p:D×D),ds[j]?=some p→eP d p.1=false)∨
  ∃j e p,es[j]?=some e∧ds[j]?=some p∧Instr.findNow desc v es i=some (some (i+j,e.val))∧eP d p.1=true∧Instr.sameBits 10000 e.key v=true∧∀m q,m<j→ds[m]?=some q→eP d q.1=false:=by
 have dJ:∀(v':Value) (d':D),Rep cap σ kt v' d'→Instr.sameNow desc v v'=some (eP d d')∧(eP d d'=true→Instr.sameBits 10000 v' v=true):=by
  intro v' d' h';rcases Rm hk with⟨k,k',rfl,kU⟩|⟨rfl,kU⟩|⟨rfl,kU⟩
  ·rw[hu] at kU;cases kU;obtain⟨n,rfl,rfl,_⟩:=hv.int_inv;obtain⟨m,rfl,rfl,_⟩:=h'.int_inv;refine⟨by simp[Instr.sameNow,eP,D.cells,rf,tc],fun e=>?_⟩;have:n=m:=by simpa [eP,D.cells,rf,tc] using e
   subst this;simp[Instr.sameBits]
  ·rw[hu] at kU;cases kU;obtain⟨n,rfl,rfl,_⟩:=hv.str_inv;obtain⟨m,rfl,rfl,_⟩:=h'.str_inv;refine⟨by simp[Instr.sameNow,eP,D.cells,rf,tc],fun e=>?_⟩;have:n=m:=aj6 (by simpa [eP,D.cells,rf,tc] using e);subst this;simpa [Instr.sameBits] using aj7 n
  ·rw[hu] at kU;cases kU;obtain⟨n,rfl,rfl⟩:=hv.bool_inv;obtain⟨m,rfl,rfl⟩:=h'.bool_inv;refine⟨by simp[Instr.sameNow,eP,D.cells,rf,tc],fun e=>?_⟩;have:n=m:=by simpa [eP,D.cells,rf,tc] using e
   subst this;simp[Instr.sameBits]
 intro es
 induction es with
 |nil=>intro ds i hl _;left;exact⟨rfl,by cases ds<;>simp_all⟩
 |cons e es ih=>
  intro ds i hl bn;cases ds with
  |nil=>simp at hl
  |cons p ds=>
   obtain⟨hs,hb⟩:=dJ e.key p.1 (bn 0 e p rfl rfl);cases nf:eP d p.1 with
   |true=>
    right;rw[nf] at hs;exact⟨0,e,p,rfl,rfl,by simp[Instr.findNow,hs],nf,hb nf,fun m q hm=>by omega⟩
   |false=>
    rw[nf] at hs;rcases ih ds (i+1) (by simpa using hl) (fun j e' p' he hp=>bn (j+1) e' p' (by simpa using he) (by simpa using hp)) with⟨h1,h2⟩|⟨j,e',p',h1,h2,h3,h4,h5,h6⟩
    ·left;refine⟨by simp[Instr.findNow,hs,h1],fun j q hq=>?_⟩;cases j with
     |zero=>simp at hq;subst hq;exact nf
     |succ j=>exact h2 j q (by simpa using hq)
    ·right;refine⟨j+1,e',p',by simpa using h1,by simpa using h2,?_,h4,h5,fun m q hm hq=>?_⟩
     ·simp[Instr.findNow,hs,h3];omega
     ·cases m with
      |zero=>simp at hq;subst hq;exact nf
      |succ m=>exact h6 m q (by omega) (by simpa using hq)
theorem Rv {d:D}:∀{ds:List (D×D)},(∀(j:Nat) (p:D×D),ds[j]?=some p→eP d p.1=false)→mB d ds=none
 |[],_=>rfl
 |p::ds,h=>by simp only[mB,h 0 p rfl];exact Rv fun j q hq=>h (j+1) q (by simpa using hq)
theorem Rw {d:D}:∀{ds:List (D×D)} {j:Nat} {p:D×D},ds[j]?=some p→eP d p.1=true→(∀(m:Nat) (q:D×D),m<j→ds[m]?=some q→eP d q.1=false)→mB d ds=some p.2
 |[],j,p,hp,_,_=>by simp at hp
 |x::ds,0,p,hp,hk,_=>by simp at hp;subst hp;simp[mB,hk]
 |x::ds,j+1,p,hp,hk,hm=>by
  simp only[mB,hm 0 x (by omega) rfl];exact Rw (j:=j) (by simpa using hp) hk fun m q ar hq=>hm (m+1) q (by omega) (by simpa using hq)
theorem S9 {d v:D}:∀{ds:List (D×D)},(∀(j:Nat) (p:D×D),ds[j]?=some p→eP d p.1=false)→ld d v ds=ds++[(d,v)]
 |[],_=>rfl
 |p::ds,h=>by simp only[ld,h 0 p rfl,yJ,if_false,Cm];rw[S9 fun j q hq=>h (j+1) q (by simpa using hq)]
theorem Ta {d v:D}:∀{ds:List (D×D)} {j:Nat} {p:D×D},ds[j]?=some p→eP d p.1=true→(∀(m:Nat) (q:D×D),m<j→ds[m]?=some q→eP d q.1=false)→ld d v ds=ds.set j (d,v)
 |[],j,p,hp,_,_=>by simp at hp
 |x::ds,0,p,hp,hk,_=>by simp at hp;subst hp;simp[ld,hk]
 |x::ds,j+1,p,hp,hk,hm=>by
  simp only[ld,hm 0 x (by omega) rfl,yJ,if_false,List.set_cons_succ];rw[Ta (j:=j) (by simpa using hp) hk fun m q ar hq=>hm (m+1) q (by omega) (by simpa using hq)]
theorem acH {P:Program}{K:TypeId}{kt:Ty}(hk:Bh P K kt=true):
 ∃k k' e q i,kt=.agg [.int k,.int k']∧P.underlying K=some (.array 2 e)∧P.underlying e=some (.int q)∧P.plainKey e=true∧P.info? e=some i∧P.cellsOf e=1:=by
 unfold Bh at hk;split at hk
 case h_2=>cases hk
 rename_i k k';split at hk
 case h_2=>cases hk
 rename_i n e hu;simp only[az] at hk;obtain⟨⟨⟨h1,h2⟩,h3⟩,h4⟩:=hk;have hn:=aN h1;subst hn;split at h2
 case h_2=>cases h2
 rename_i q hq;split at h4
 case h_2=>cases h4
 rename_i i hi;exact⟨k,k',e,q,i,rfl,hu,hq,h3,hi,aN h4⟩
theorem Rep.pair_inv {cap:Nat→Option CSig}{σ:Im}{k k':IntKind}{v:Value}{d:D}(h:Rep cap σ (.agg [.int k,.int k']) v d):∃a b,v=.agg #[.int k a,.int k' b]∧d=.agg [.v (.int k a),.v (.int k' b)]:=by
 generalize ht:Ty.agg [.int k,.int k']=t at h;cases h with
 |agg ts vs ds h1 h2 h ho=>
  cases ht;obtain⟨x,y,rfl⟩:∃x y,vs=[x,y]:=by
   match vs,h1 with
   |[x,y],_=>exact⟨x,y,rfl⟩
  obtain⟨p,q,rfl⟩:∃x y,ds=[x,y]:=by
   match ds,h2 with
   |[x,y],_=>exact⟨x,y,rfl⟩
  obtain⟨a,e1,e2,_⟩:=(h 0 _ rfl).int_inv;obtain⟨b,e3,e4,_⟩:=(h 1 _ rfl).int_inv;simp at e1 e2 e3 e4;subst e1 e2 e3 e4;exact⟨a,b,rfl,rfl⟩
 |_=>cases ht
theorem av4 {P:Program}{K e:TypeId}{q:IntKind}{i:TypeInfo}(hu:P.underlying K=some (.array 2 e))(hq:P.underlying e=some (.int q))(hp:P.plainKey e=true)(hi:P.info? e=some i)(hc:P.cellsOf e=1)(k k':IntKind)(a b c d:Int)(w:World):
 (Op.equal K (.agg #[.int k a,.int k' b]) (.agg #[.int k c,.int k' d])).run P w=.ok (a==c&&b==d) w:=by
 unfold Op.equal;show(Op.equalIn (9999+1) K _ _).run P w=_;rw[run_equalIn_array w 9999 _ _ hu hi,hc];have e0:List.range 2=[0,1]:=rfl;have p0:∀(x y:Value) (w:World),(part e #[x,y] 0).run P w=.ok x w:=fun x y w=>run_part_plain w hp rfl;have p1:∀(x y:Value) (w:World),(part e #[x,y] 1).run P w=.ok y w:=fun x y w=>run_part_plain w hp rfl;have q0:∀(k:IntKind) (a b:Int) (w:World),(Op.equalIn 9999 e (.int k a) (.int k b)).run P w=.ok (a==b) w:=fun k a b w=>run_equalIn_int w 9998 e k q a b hq;rw[e0];simp only[Op.eqItems,Sem.run_bind,Nat.zero_mul,Nat.one_mul,p0,p1,Result.andThen_ok,q0];cases a==c
 ·simp
 ·simp only[Bool.not_true,yJ,if_false,Sem.run_bind,p1,Result.andThen_ok,q0];cases b==d<;>simp
theorem acG {P:Program}{K:TypeId}{kt:Ty}(hk:uZ P K kt=true):p7 P K kt=true∨Bh P K kt=true:=by
 unfold uZ at hk;simpa using hk
theorem akE {cap:Nat→Option CSig}{σ:Im}{P:Program}{K:TypeId}{kt:Ty}(hk:Bh P K kt=true){v:Value}{d:D}(hv:Rep cap σ kt v d){w:World}{b:Bool}:(Instr.checkKey b 10000 K v).run P w=.ok () w:=by
 obtain⟨k,k',e,q,i,rfl,hu,hq,hp,hi,hc⟩:=acH hk;obtain⟨x,y,rfl,_⟩:=hv.pair_inv;have p0:∀(x y:Value) (w:World),(part e #[x,y] 0).run P w=.ok x w:=fun x y w=>run_part_plain w hp rfl;have p1:∀(x y:Value) (w:World),(part e #[x,y] 1).run P w=.ok y w:=fun x y w=>run_part_plain w hp rfl
 have c0:∀(m:Nat) (k:IntKind) (n:Int) (w:World),(Instr.checkKey b (m+1) e (.int k n)).run P w=.ok () w:=fun m k n w=>by
  simp[Instr.checkKey,run_underlying hq]
 have s0:∀w:World,(Go.sizeOf e).run P w=Result.ok 1 w:=fun w=>by rw[run_sizeOf w hi,hc]
 have main:∀m,(Instr.checkKey b (m+1+1) K (.agg #[.int k x,.int k' y])).run P w=.ok () w:=by
  intro m;rw[Instr.checkKey];simp only[Sem.run_bind,run_underlying hu,Result.andThen_ok,Std.Legacy.Range.forIn_eq_forIn_range',Std.Legacy.Range.size,Nat.sub_zero,Nat.add_one_sub_one,Nat.div_one];simp[List.range',s0,p0,p1,c0,Sem.run_bind,Result.andThen_ok]
 exact main 9998
theorem ZF {cap:Nat→Option CSig}{σ:Im}{P:Program}{K:TypeId}{kt:Ty}(hk:uZ P K kt=true){v:Value}{d:D}(hv:Rep cap σ kt v d){w:World}{b:Bool}:(Instr.checkKey b 10000 K v).run P w=.ok () w:=by
 rcases acG hk with hk|hk
 case inr=>exact akE hk hv
 have:∀n,(Instr.checkKey b (n+1) K v).run P w=.ok () w:=by
  intro n;rcases Rm hk with⟨k,k',rfl,hu⟩|⟨rfl,hu⟩|⟨rfl,hu⟩<;>cases v<;>simp[Instr.checkKey,run_underlying hu]
 exact this 9999
section
variable {C:Ctx} {S:St} {ρ:Env} {σ:Im} {own:Nat→Option Nat} {hv:Nat→Value} {w0:World} {σ0:Base} {A:Nat→Prop} {a:Act} {w:World} {gs:List (Nat×Bool)} {Φ:aY} {dst:Nat}
theorem aq7 {P:Program}{K:TypeId}{kt:Ty}(hk:p7 P K kt=true):∃desc,P.underlying K=some desc:=by
 rcases Rm hk with⟨k,k',rfl,hu⟩|⟨rfl,hu⟩|⟨rfl,hu⟩<;>exact⟨_,hu⟩
theorem av5 {cap:Nat→Option CSig}{P:Program}{K:TypeId}{kt et:Ty}(hk:Bh P K kt=true){v:Value}{d:D}(hv:Rep cap σ kt v d)(arr:Array MapEntry)(ds:List (D×D))(hl:ds.length=arr.size)
 (bn:∀(j:Nat) (e:MapEntry) (p:D×D),arr[j]?=some e→ds[j]?=some p→Rep cap σ kt e.key p.1∧Rep cap σ et e.val p.2) (w:World):
 ((Instr.findKey K v arr.toList).run P w=.ok none w∧mB d ds=none∧∀u,ld d u ds=ds++[(d,u)])∨
 ∃j e p,arr[j]?=some e∧ds[j]?=some p∧(Instr.findKey K v arr.toList).run P w=.ok (some (j,e.val)) w∧mB d ds=some p.2∧(∀u,ld d u ds=ds.set j (d,u))∧Instr.sameBits 10000 e.key v=true:=by
 obtain⟨k,k',e,q,i,rfl,hu,hq,hp,hi,hc⟩:=acH hk;have dJ:∀(v':Value) (d':D),Rep cap σ (.agg [.int k,.int k']) v' d'→(Op.equal K v v').run P w=.ok (eP d d') w∧(eP d d'=true→Instr.sameBits 10000 v' v=true)∧Instr.sameNow (.array 2 e) v v'=none:=by
  intro v' d' h';obtain⟨a,b,rfl,rfl⟩:=hv.pair_inv;obtain⟨a',b',rfl,rfl⟩:=h'.pair_inv;refine⟨?_,fun he=>?_,rfl⟩
  ·rw[av4 hu hq hp hi hc];simp[eP,D.cells,rf,tc]
  ·have:a=a'∧b=b':=by simpa [eP,D.cells,rf,tc] using he
   obtain⟨rfl,rfl⟩:=this;simp[Instr.sameBits]
 have ask:∀(es:List MapEntry) (ds:List (D×D)) (i:Nat),ds.length=es.length→(∀(j:Nat) (e:MapEntry) (p:D×D),es[j]?=some e→ds[j]?=some p→Rep cap σ (.agg [.int k,.int k']) e.key p.1)→
  ((Instr.findAsking K v es i).run P w=.ok none w∧∀(j:Nat) (p:D×D),ds[j]?=some p→eP d p.1=false)∨
  ∃j e p,es[j]?=some e∧ds[j]?=some p∧(Instr.findAsking K v es i).run P w=.ok (some (i+j,e.val)) w∧eP d p.1=true∧Instr.sameBits 10000 e.key v=true∧∀m q,m<j→ds[m]?=some q→eP d q.1=false:=by
  intro es
  induction es with
  |nil=>intro ds i hl _;left;exact⟨by simp[Instr.findAsking],by cases ds<;>simp_all⟩
  |cons en es ih=>
   intro ds i hl bn;cases ds with
   |nil=>simp at hl
   |cons p ds=>
    obtain⟨hs,hb,_⟩:=dJ en.key p.1 (bn 0 en p rfl rfl);cases nf:eP d p.1 with
    |true=>
     right;rw[nf] at hs;exact⟨0,en,p,rfl,rfl,by simp[Instr.findAsking,hs],nf,hb nf,fun m q hm=>by omega⟩
    |false=>
     rw[nf] at hs;rcases ih ds (i+1) (by simpa using hl) (fun j e' p' he hp=>bn (j+1) e' p' (by simpa using he) (by simpa using hp)) with⟨h1,h2⟩|⟨j,e',p',h1,h2,h3,h4,h5,h6⟩
     ·left;refine⟨by simp[Instr.findAsking,hs,h1],fun j q hq=>?_⟩;cases j with
      |zero=>simp at hq;subst hq;exact nf
      |succ j=>exact h2 j q (by simpa using hq)
     ·right;refine⟨j+1,e',p',by simpa using h1,by simpa using h2,?_,h4,h5,fun m q hm hq=>?_⟩
      ·simp[Instr.findAsking,hs,h3];omega
      ·cases m with
       |zero=>simp at hq;subst hq;exact nf
       |succ m=>exact h6 m q (by omega) (by simpa using hq)
 have qU:(Instr.findKey K v arr.toList).run P w=(Instr.findAsking K v arr.toList 0).run P w:=by
  cases lG:arr.toList with
  |nil=>simp[Instr.findKey,run_underlying hu,Instr.findNow,Instr.findAsking]
  |cons en es=>
   obtain⟨p,AX⟩:∃p,ds[0]?=some p:=by
        have:0<ds.length:=by rw[hl];have:=congrArg List.length lG;simp at this;omega
        exact⟨_,cl this⟩
   have Qk:arr[0]?=some en:=by rw[←Cg,lG];rfl
   have:=(dJ en.key p.1 (bn 0 en p Qk AX).1).2.2;simp[Instr.findKey,run_underlying hu,Instr.findNow,this]
 rw[qU];rcases ask arr.toList ds 0 (by simpa using hl) (fun j e p he hp=>(bn j e p (by simpa using he) hp).1) with⟨h1,h2⟩|⟨j,e,p,h1,h2,h3,h4,h5,h6⟩
 ·left;exact⟨h1,Rv h2,fun u=>S9 h2⟩
 ·right;simp only[mU] at h3;exact⟨j,e,p,by simpa using h1,h2,h3,Rw h2 h4 h6,fun u=>Ta h2 h4 h6,h5⟩
theorem run_findKey {cap:Nat→Option CSig}{P:Program}{K:TypeId}{kt et:Ty}(gE:uZ P K kt=true){v:Value}{d:D}(hv:Rep cap σ kt v d)(arr:Array MapEntry)(ds:List (D×D))(hl:ds.length=arr.size)
 (bn:∀(j:Nat) (e:MapEntry) (p:D×D),arr[j]?=some e→ds[j]?=some p→Rep cap σ kt e.key p.1∧Rep cap σ et e.val p.2) (w:World):
 ((Instr.findKey K v arr.toList).run P w=.ok none w∧mB d ds=none∧∀u,ld d u ds=ds++[(d,u)])∨
 ∃j e p,arr[j]?=some e∧ds[j]?=some p∧(Instr.findKey K v arr.toList).run P w=.ok (some (j,e.val)) w∧mB d ds=some p.2∧(∀u,ld d u ds=ds.set j (d,u))∧Instr.sameBits 10000 e.key v=true:=by
 rcases acG gE with hk|hk
 case inr=>exact av5 hk hv arr ds hl bn w
 obtain⟨desc,hu⟩:=aq7 hk;rcases amm hk hu hv arr.toList ds 0 (by simpa using hl) (fun j e p he hp=>(bn j e p (by simpa using he) hp).1) with⟨h1,h2⟩|⟨j,e,p,h1,h2,h3,h4,h5,h6⟩
 ·left;exact⟨by simp[Instr.findKey,run_underlying hu,h1],Rv h2,fun u=>S9 h2⟩
 ·right;refine⟨j,e,p,by simpa using h1,h2,?_,Rw h2 h4 h6,fun u=>Ta h2 h4 h6,h5⟩;simp only[mU] at h3;simp[Instr.findKey,run_underlying hu,h3]
theorem atW (h:Inv C S ρ σ own hv w0 σ0 A a w)(hC:CtxOK C σ0)(hg:holds gs ρ=true){T:TypeId}{m k:Operand}{ok:Bool}{r:Sh×List PI}(hr:SL C S gs dst T m k ok=some r){o:Oper}(ho:o.op=.lookup T m k ok):
 eI C S ρ σ hv Φ dst a w o r:=by
 unfold SL at hr;split at hr
 case h_2=>cases hr
 rename_i K E hT;simp only[aG] at hr;obtain⟨p,hp,q,hq,hr⟩:=hr;have bj:=Yo h hC hg hp;have dK:=cG h hC hg hq;split at hr
 case h_2=>cases hr
 rename_i kt et e1;rw[e1] at bj;split at hr
 case h_2=>cases hr
 rename_i z inf hz oh;cases hc:(Ty.beq q.1 kt&&uZ C.P K kt&&Ty.sub z.1 et&&ua inf et)<;>simp only[hc,cond_true,cond_false] at hr
 ·cases hr
 simp only[az] at hc;obtain⟨⟨⟨Ko,Eb⟩,cR⟩,hzero⟩:=hc;rw[Ty.beq_eq _ _ Ko] at dK;obtain⟨v0,xp,EH⟩:∃v0,inf.zero=some v0∧Rep C.cap σ et v0 z.2:=by
  unfold ua at hzero;split at hzero
  ·rename_i v0 e0;exact⟨v0,e0,(yH hz hzero).1.sub cR⟩
  ·cases hzero
 have aoP:∃(arr:Array MapEntry) (ds:List (D×D)),(p.2.ev ρ).m=ds∧ds.length=arr.size∧
  (∀(j:Nat) (e:MapEntry) (p:D×D),arr[j]?=some e→ds[j]?=some p→Rep C.cap σ kt e.key p.1∧Rep C.cap σ et e.val p.2)∧
  ((a.eval m=.map none∧arr=#[])∨∃g clock,a.eval m=.map (some g)∧w.heap[g]?=some (.map arr clock)):=by
  rcases bj with bj|⟨T',e,cells,xs,ht,_⟩|⟨g,arr,clock,es,kt',et',ht,hvm,hb,hd,hl,hx,bn⟩
  ·generalize xq:a.eval m=v at bj;generalize uB:p.2.ev ρ=d at bj;cases bj with
   |mapnil=>exact⟨#[],[],by simp[D.m],rfl,by simp,.inl ⟨rfl,rfl⟩⟩
   |map kt et r jK es hm hl hx hk he=>
    obtain⟨_,arr,clock,hb,lG⟩:=(h.ok.m _ _ hm).resolve_right (fun e=>EX hl hk e.1);have hn:es.length=arr.size:=by rw[hl,←lG];simp[entriesOf]
    refine⟨arr,es,by simp[D.m],hn,fun j e p hj hp=>?_,.inr ⟨r,clock,rfl,hb⟩⟩;have:jK[j]?=some (e.key,e.val):=by rw[←lG];simp[entriesOf,hj]
    exact⟨hk j _ p this hp,he j _ p this hp⟩
  ·cases ht
  ·cases ht;exact⟨arr,es,by rw[hd];rfl,hl,bn,.inr ⟨g,clock,hvm,hb⟩⟩
 obtain⟨arr,ds,hd,hl,bn,cS⟩:=aoP;have gU:∀b,(Instr.checkKey b 10000 K (a.eval k)).run C.P w=.ok () w:=fun b=>ZF (cap:=C.cap) (σ:=σ) Eb dK;have Qy:∃u b x,(Instr.lookup T (a.eval m) (a.eval k) ok).run C.P w=.ok (if ok then .tuple #[u,.bool b] else u) w∧(mB (q.2.ev ρ) (p.2.ev ρ).m).getD z.2=x∧(mB (q.2.ev ρ) (p.2.ev ρ).m).isSome=b∧Rep C.cap σ et u x:=by
  rw[hd];rcases run_findKey Eb dK arr ds hl bn w with⟨h1,h2,_⟩|⟨j,e,x,h1,h2,h3,h4,_,_⟩
  ·refine⟨v0,false,z.2,?_,by rw[h2];rfl,by rw[h2];rfl,EH⟩;rcases cS with⟨em,rfl⟩|⟨g,clock,em,hb⟩
   ·simp only[List.toList_toArray] at h1;cases ok<;>simp[Instr.lookup,run_underlying hT,em,gU,h1,zeroValue,run_typeInfo w oh,xp]
   ·cases ok<;>simp[Instr.lookup,run_underlying hT,em,getObj,Sem.run,hb,gU,h1,zeroValue,run_typeInfo w oh,xp]
  ·refine⟨e.val,true,x.2,?_,by rw[h4];rfl,by rw[h4];rfl,(bn j e x h1 h2).2⟩;rcases cS with⟨em,rfl⟩|⟨g,clock,em,hb⟩
   ·simp at h1
   ·cases ok<;>simp[Instr.lookup,run_underlying hT,em,getObj,Sem.run,hb,gU,h3]
 obtain⟨u,b,x,ay,nm,hx2,cK⟩:=Qy;cases ok with
 |true=>
  simp only[cond_true] at hr;cases hr;refine .dat (v:=.tuple #[u,.bool b]) (by simp[execOp,ho,ay]) ?_;simp only[PE.ev,PE.evs,nm,hx2];refine .tup [et,.bool] [u,.bool b] [x,.v (.bool b)] rfl rfl (fun i t hi=>?_)
  match i,hi with
  |0,hi=>simp at hi;subst hi;exact cK
  |1,hi=>simp at hi;subst hi;exact .bool b
  |i+2,hi=>simp at hi
 |false=>
  simp only[cond_false] at hr;cases hr;refine .dat (v:=u) (by simp[execOp,ho,ay]) ?_;simp only[PE.ev,nm];exact cK
end
end Cx
namespace Cx
open Go Go.RowKit
theorem aam (off:Nat):∀(l:List Value) (s:Nat) (cells:Array Value),off+s+l.length≤cells.size→
 ((l.zipIdx s).foldl (fun cs (x:Value×Nat)=>cs.setIfInBounds (off+x.2) x.1) cells).size=cells.size∧
 ∀p,((l.zipIdx s).foldl (fun cs (x:Value×Nat)=>cs.setIfInBounds (off+x.2) x.1) cells)[p]?=if off+s≤p∧p<off+s+l.length then l[p-(off+s)]? else cells[p]?
 |[],s,cells,_=>by
  refine⟨rfl,fun p=>?_⟩;have:¬(off+s≤p∧p<off+s+0):=by omega
  simp only[List.zipIdx_nil,List.foldl_nil,qA];rw[if_neg this]
 |v::l,s,cells,h=>by
  simp only[mS] at h;obtain⟨h1,h2⟩:=aam off l (s+1) (cells.setIfInBounds (off+s) v) (by simp;omega);simp only[List.zipIdx_cons,Ha];refine⟨by rw[h1];simp,fun p=>?_⟩;rw[h2 p];by_cases hp:p=off+s
  ·subst hp;have c1:¬(off+(s+1)≤off+s∧off+s<off+(s+1)+l.length):=by omega
   have c2:off+s≤off+s∧off+s<off+s+(v::l).length:=by simp
   rw[if_neg c1,if_pos c2,Cf,if_pos rfl,if_pos (by omega)];simp
  ·by_cases hc:off+(s+1)≤p∧p<off+(s+1)+l.length
   ·have c2:off+s≤p∧p<off+s+(v::l).length:=by simp only[mS];omega
    rw[if_pos hc,if_pos c2];rw[show p-(off+s)=(p-(off+(s+1)))+1 by omega];simp
   ·have c2:¬(off+s≤p∧p<off+s+(v::l).length):=by simp only[mS];omega
    rw[if_neg hc,if_neg c2,Cf];rw[if_neg (by omega)]
theorem PG (place:Nat→Option (Nat×Nat)):∀(parts:List (Nat×Value)) (cells:Array Value),
 (∀p,p∈parts→∃o,place p.1=some (o,p.2.cells.size)∧o+p.2.cells.size≤cells.size)→
 (∀i j oi si oj sj,i≠j→place i=some (oi,si)→place j=some (oj,sj)→oi+si≤oj∨oj+sj≤oi)→(parts.map (·.1)).Nodup→
 ∃fE,Instr.fill place cells parts=some fE∧fE.size=cells.size∧
  (∀i v o,(i,v)∈parts→place i=some (o,v.cells.size)→∀m,m<v.cells.size→fE[o+m]?=v.cells[m]?)∧
  (∀i o s,i∉parts.map (·.1)→place i=some (o,s)→∀m,m<s→fE[o+m]?=cells[o+m]?)
 |[],cells,_,_,_=>⟨cells,rfl,rfl,by simp,fun _ _ _ _ _ _ _=>rfl⟩
 |(i,v)::parts,cells,h,AI,bX=>by
  obtain⟨o,hp,hle⟩:=h (i,v) (gd ..);simp only at hp hle;obtain⟨g1,g2⟩:=aam o v.cells.toList 0 cells (by simp;omega);simp only[jN,uf] at bX
  have hz:v.cells.zipIdx.foldl (fun cs (x:Value×Nat)=>cs.setIfInBounds (o+x.2) x.1) cells=(v.cells.toList.zipIdx 0).foldl (fun cs (x:Value×Nat)=>cs.setIfInBounds (o+x.2) x.1) cells:=by
    rw[←Array.foldl_toList];simp
  generalize hc1:(v.cells.toList.zipIdx 0).foldl (fun cs (x:Value×Nat)=>cs.setIfInBounds (o+x.2) x.1) cells=c1 at g1 g2 hz
  obtain⟨fE,k1,k2,k3,k4⟩:=PG place parts c1 (fun p hm=>by
    obtain⟨o',h1,h2⟩:=h p (fL _ hm);exact⟨o',h1,by rw[g1];exact h2⟩) AI bX.2
  refine⟨fE,?_,k2.trans g1,?_,?_⟩
  ·simp only[Instr.fill,hp];have:¬((v.cells.size≠v.cells.size||decide (o+v.cells.size>cells.size))=true):=by simp;omega
   rw[if_neg this];rw[←k1,←hz]
  ·intro j u o' hm AY m ar;rcases cW.1 hm with e|cI
   ·cases e;rw[hp] at AY;cases AY;rw[k4 i o v.cells.size bX.1 hp m ar,g2];rw[if_pos (by simp;omega)];simp
   ·exact k3 j u o' cI AY m ar
  ·intro j o' s' ko AY m ar;simp only[jN,cW,not_or] at ko;rw[k4 j o' s' ko.2 AY m ar,g2];have:=AI i j o v.cells.size o' s' (fun e=>ko.1 e.symm) hp AY;rw[if_neg (by simp;omega)]
section
variable {C:Ctx} {S:St} {ρ:Env} {σ:Im} {own:Nat→Option Nat} {hv:Nat→Value} {w0:World} {σ0:Base} {A:Nat→Prop} {a:Act} {w:World} {gs:List (Nat×Bool)} {Φ:aY} {dst:Nat}
theorem Rep.flat {cap:Nat→Option CSig}{t:Ty}{v:Value}{d:D}(h:Rep cap σ t v d)(ht:t.rowT=true∨t.one=true):
 t.flat.length=t.size∧d.cells.length=t.size∧∀(m:Nat) (tm:Ty),t.flat[m]?=some tm→tm.one=true∧Rep cap σ tm (v.cells.getD m undef) (d.cells.getD m .none):=by
 cases h with
 |agg ts vs ds h1 h2 h ho=>
  refine⟨rfl,by simp[D.cells,Ty.size,h2],fun m tm hm=>⟨ho m tm hm,?_⟩⟩;have:=h m tm hm;simpa [Value.cells,D.cells,hZ,bh] using this
 |tup ts vs ds h1 h2 h=>simp[Ty.rowT,Ty.one] at ht
 |_=>
  refine⟨rfl,rfl,fun m tm hm=>?_⟩
  match m,hm with
  |0,hm=>
   simp only[Ty.flat,NW,bx] at hm;subst hm;refine⟨rfl,?_⟩;simp only[Value.cells,D.cells,vW];constructor<;>assumption
  |m+1,hm=>simp[Ty.flat] at hm
theorem tj:∀{l:List Nat},mE l=true→l.Nodup
 |[],_=>List.nodup_nil
 |a::r,h=>by
  simp only[mE,az,lu] at h;refine uf.2 ⟨fun hm=>?_,tj h.2⟩;have:=List.any_eq_false.1 h.1 a hm;simp at this
def Laid (P:Program):List Field→Nat→Prop
 |[],_=>True
 |f::fs,off=>f.offset=off∧∃inf,P.info? f.type=some inf∧Laid P fs (off+inf.size)
theorem Laid.get {P:Program}:∀{fs:List Field} {off:Nat},Laid P fs off→∀(i:Nat) (f:Field),fs[i]?=some f→∃inf,P.info? f.type=some inf∧off≤f.offset∧
 ∀(j:Nat) (g:Field),i<j→fs[j]?=some g→f.offset+inf.size≤g.offset
 |[],_,_,i,f,hi=>by simp at hi
 |f0::fs,off,h,i,f,hi=>by
  obtain⟨h1,inf,h2,h3⟩:=h;cases i with
  |zero=>
   simp at hi;subst hi;refine⟨inf,h2,by omega,fun j g hj hg=>?_⟩;cases j with
   |zero=>omega
   |succ j=>obtain⟨_,_,h4,_⟩:=h3.get j g (by simpa using hg);omega
  |succ i=>
   simp at hi;obtain⟨aqV,k1,k2,k3⟩:=h3.get i f hi;refine⟨aqV,k1,by omega,fun j g hj hg=>?_⟩;cases j with
   |zero=>omega
   |succ j=>exact k3 j g (by omega) (by simpa using hg)
theorem akj {zs:List Value}{parts:List (Nat×Operand)}:∀(fs:List Field) (i off:Nat) (r:List Ty×List PE),mX C S gs zs parts fs i off=some r→Laid C.P fs off:=by
 intro fs
 induction fs with
 |nil=>intro i off r _;trivial
 |cons f fs ih=>
  intro i off r h;simp only[mX] at h;split at h
  case h_2=>cases h
  rename_i inf ft hi ht;cases hc:(Nat.beq f.offset off&&Nat.beq inf.size ft.size)<;>simp only[hc,cond_true,cond_false] at h
  ·cases h
  simp only[az] at hc;simp only[aG] at h;obtain⟨q,hq,_⟩:=h;exact⟨aN hc.1,inf,hi,ih _ _ _ hq⟩
theorem Zx {zs:List Value}{parts:List (Nat×Operand)}:∀(fs:List Field) (i off:Nat) (r:List Ty×List PE),mX C S gs zs parts fs i off=some r→off≤zs.length:=by
 intro fs
 induction fs with
 |nil=>intro i off r h;simp only[mX] at h;cases hb:Nat.beq off zs.length<;>simp[hb] at h;exact Nat.le_of_eq (aN hb)
 |cons f fs ih=>
  intro i off r h;simp only[mX] at h;split at h
  case h_2=>cases h
  rename_i inf ft hi ht;cases hc:(Nat.beq f.offset off&&Nat.beq inf.size ft.size)<;>simp only[hc,cond_true,cond_false] at h
  ·cases h
  simp only[aG] at h;obtain⟨q,hq,_⟩:=h;have:=ih _ _ _ hq;omega
theorem aki {zs:List Value}{parts:List (Nat×Operand)}:∀(fs:List Field) (i off:Nat) (r:List Ty×List PE),mX C S gs zs parts fs i off=some r→
 ∃ft:List Ty×List PE,r=ft∧(∀(m:Nat) (f:Field) (inf:TypeInfo),fs[m]?=some f→C.P.info? f.type=some inf→f.offset+inf.size≤zs.length)∧(∀(m:Nat) (x:Nat×Operand) (f:Field) (inf:TypeInfo),fs[m]?=some f→C.P.info? f.type=some inf→parts.find? (fun p=>Nat.beq p.1 (i+m))=some x→∃y ft,use C S gs x.2=some y∧Ty.sub y.1 ft=true∧ft.size=inf.size)∧off+r.1.length=zs.length:=by
 intro fs
 induction fs with
 |nil=>intro i off r h;simp only[mX] at h;cases hb:Nat.beq off zs.length<;>simp[hb] at h;subst h;exact⟨_,rfl,by simp,by simp,by simpa using aN hb⟩
 |cons f fs ih=>
  intro i off r h;simp only[mX] at h;split at h
  case h_2=>cases h
  rename_i inf ft hi ht;cases hc:(Nat.beq f.offset off&&Nat.beq inf.size ft.size)<;>simp only[hc,cond_true,cond_false] at h
  ·cases h
  simp only[az] at hc;have jt:=aN hc.1;have bp:=aN hc.2;simp only[aG] at h;obtain⟨q,hq,h⟩:=h;have hle:=Zx _ _ _ _ hq;obtain⟨_,rfl,k1,k2,k3⟩:=ih _ _ _ hq;have e1:∀(m:Nat) (g:Field) (ig:TypeInfo),(f::fs)[m]?=some g→C.P.info? g.type=some ig→g.offset+ig.size≤zs.length:=by
   intro m g ig hm gl;cases m with
   |zero=>simp at hm;subst hm;rw[hi] at gl;cases gl;omega
   |succ m=>exact k1 m g ig (by simpa using hm) gl
  have aal:∀t:Ty,t.flat.length=t.size:=fun t=>by cases t<;>simp[Ty.flat,Ty.size]
  split at h
  ·rename_i x hx;simp only[aG] at h;obtain⟨y,hy,h⟩:=h;cases hs:(Ty.sub y.1 ft&&(y.1.rowT||y.1.one))<;>simp only[hs,cond_true,cond_false] at h
   ·cases h
   cases h;simp only[az] at hs;refine⟨_,rfl,e1,fun m x' g ig hm gl hf=>?_,?_⟩
   ·cases m with
    |zero=>
     simp at hm;subst hm;rw[hi] at gl;cases gl;simp only[sd] at hf;rw[hx] at hf;cases hf;exact⟨y,ft,hy,hs.1,bp.symm⟩
    |succ m=>exact k2 m x' g ig (by simpa using hm) gl (by rwa [show i+(m+1)=i+1+m by omega] at hf)
   ·have:=(Ty.sub_one _ _ hs.1).2;simp only[l6,aal];omega
  ·rename_i hx;cases mA:jL ft (rowOf ft.rowT ((zs.drop off).take inf.size))<;>simp only[mA,cond_true,cond_false] at h
   ·cases h
   simp only[aR] at h;obtain⟨z,hz,rfl⟩:=h;have cY:=(yH (cap:=C.cap) (σ:=⟨fun _ _=>none,fun _=>none⟩) hz mA).2.1;refine⟨_,rfl,e1,fun m x' g ig hm gl hf=>?_,?_⟩
   ·cases m with
    |zero=>simp only[sd] at hf;rw[hx] at hf;cases hf
    |succ m=>exact k2 m x' g ig (by simpa using hm) gl (by rwa [show i+(m+1)=i+1+m by omega] at hf)
   ·have:=(Ty.sub_one _ _ cY).2;simp only[l6,aal];omega
theorem akk (h:Inv C S ρ σ own hv w0 σ0 A a w)(hC:CtxOK C σ0)(hg:holds gs ρ=true){zs:List Value}{parts:List (Nat×Operand)}(cells:Array Value):
 ∀(fs:List Field) (i off:Nat) (r:List Ty×List PE),mX C S gs zs parts fs i off=some r→
  (∀(m:Nat) (f:Field) (inf:TypeInfo),fs[m]?=some f→C.P.info? f.type=some inf→
        (∀x,parts.find? (fun p=>Nat.beq p.1 (i+m))=some x→∀q,q<inf.size→cells[f.offset+q]?=(a.eval x.2).cells[q]?)∧
        (parts.find? (fun p=>Nat.beq p.1 (i+m))=none→∀q,q<inf.size→cells[f.offset+q]?=zs[f.offset+q]?))→
  (PE.evc ρ r.2).length=r.1.length∧∀(m:Nat) (t:Ty),r.1[m]?=some t→t.one=true∧Rep C.cap σ t (cells.getD (off+m) undef) ((PE.evc ρ r.2).getD m .none):=by
 intro fs
 induction fs with
 |nil=>intro i off r hr _;simp only[mX] at hr;cases hb:Nat.beq off zs.length<;>simp[hb] at hr;subst hr;simp[PE.evc]
 |cons f fs ih=>
  intro i off r hr bn;simp only[mX] at hr;split at hr
  case h_2=>cases hr
  rename_i inf ft hi ht;cases hc:(Nat.beq f.offset off&&Nat.beq inf.size ft.size)<;>simp only[hc,cond_true,cond_false] at hr
  ·cases hr
  simp only[az] at hc;have jt:=aN hc.1;have bp:=aN hc.2;simp only[aG] at hr;obtain⟨q,hq,hr⟩:=hr
  obtain⟨l1,uN⟩:=ih (i+1) (off+inf.size) q hq (fun m g aqW hm gl=>by
   have:=bn (m+1) g aqW (by simpa using hm) gl
   rwa [show i+(m+1)=i+1+m by omega] at this)
  obtain⟨hp,hn⟩:=bn 0 f inf rfl hi;have join:∀(t:Ty) (v:Value) (d:D) (pe:PE),Rep C.cap σ t v d→(t.rowT=true∨t.one=true)→pe.ev ρ=d→t.size=inf.size→(∀m,m<inf.size→cells[f.offset+m]?=v.cells[m]?)→
        (PE.evc ρ (pe::q.2)).length=(t.flat++q.1).length∧∀(m:Nat) (t':Ty),(t.flat++q.1)[m]?=some t'→t'.one=true∧Rep C.cap σ t' (cells.getD (off+m) undef) ((PE.evc ρ (pe::q.2)).getD m .none):=by
   intro t v d pe cK iz uM KJ bA;obtain⟨f1,f2,f3⟩:=cK.flat iz;simp only[PE.evc,uM];refine⟨by simp[f1,f2,l1],fun m t' hm=>?_⟩;rw[mR] at hm;split at hm
   ·rename_i ar;obtain⟨g1,g2⟩:=f3 m t' hm;refine⟨g1,?_⟩;have e1:cells.getD (off+m) undef=v.cells.getD m undef:=by
     rw[hZ,hZ,←jt,bA m (by omega)]
    have e2:(d.cells++PE.evc ρ q.2).getD m .none=d.cells.getD m .none:=by
     rw[bh,bh,nT (by omega)]
    rw[e1,e2];exact g2
   ·rename_i fG;obtain⟨g1,g2⟩:=uN _ t' hm;refine⟨g1,?_⟩;have e1:off+inf.size+(m-t.flat.length)=off+m:=by omega
    have e2:(d.cells++PE.evc ρ q.2).getD m .none=(PE.evc ρ q.2).getD (m-t.flat.length) .none:=by
     rw[bh,bh,oZ (by omega)];rw[f1,←f2]
    rw[e1] at g2;rw[e2];exact g2
  simp only[sd] at hp hn;split at hr
  ·rename_i x hx;simp only[aG] at hr;obtain⟨y,hy,hr⟩:=hr;cases hs:(Ty.sub y.1 ft&&(y.1.rowT||y.1.one))<;>simp only[hs,cond_true,cond_false] at hr
   ·cases hr
   cases hr;simp only[az,lY] at hs;exact join y.1 _ _ y.2 (cG h hC hg hy) hs.2 rfl (by rw[(Ty.sub_one _ _ hs.1).2,bp]) (hp x hx)
  ·rename_i hx;cases mA:jL ft (rowOf ft.rowT ((zs.drop off).take inf.size))<;>simp only[mA,cond_true,cond_false] at hr
   ·cases hr
   simp only[aR] at hr;obtain⟨z,hz,rfl⟩:=hr;obtain⟨k1,k2,k3⟩:=yH (cap:=C.cap) (σ:=σ) hz mA;have Kt:(rowOf ft.rowT ((zs.drop off).take inf.size)).cells.size=inf.size:=by rw[k1.size,(Ty.sub_one _ _ k2).2,bp]
   refine join z.1 _ z.2 (.con z.2) k1 ?_ rfl (by rw[(Ty.sub_one _ _ k2).2,bp]) (fun m hm=>?_)
   ·cases ft<;>simp[oU,qv] at hz<;>first|(subst hz;simp[Ty.one])|(obtain⟨_,_,rfl⟩:=hz;simp[Ty.rowT])
   ·rw[hn hx m hm,jt];cases uO:ft.rowT with
    |true=>simp[rowOf,Value.cells,ia,iS,hm]
    |false=>
     rw[uO] at Kt k1;have h1:(z.1).rowT=false:=by
       have:=(Ty.sub_one _ _ k2)
       cases ft<;>simp[Ty.rowT] at uO<;>simp[oU,qv] at hz<;>subst hz<;>rfl
     rw[k1.cells1 h1] at Kt ⊢;simp at Kt;have hm0:m=0:=by omega
     subst hm0;have:∃u,zs[off]?=some u:=⟨_,cl (show off<zs.length by have:=Zx _ _ _ _ hq;omega)⟩
     simp[rowOf,bh,ia,iS,←Kt];obtain⟨u,hu⟩:=this;simp[hu]
theorem acI {P:Program}:∀(fs:List Field) (off:Nat),Laid P fs off→
 ∃l:List (Nat×Nat),fs.mapM (fun f=>(P.info? f.type).map fun i=>(f.offset,i.size))=some l∧l.length=fs.length∧
  ∀(i:Nat) (f:Field) (inf:TypeInfo),fs[i]?=some f→P.info? f.type=some inf→l[i]?=some (f.offset,inf.size)
 |[],_,_=>⟨[],rfl,rfl,by simp⟩
 |f::fs,off,h=>by
  obtain⟨h1,inf,h2,h3⟩:=h;obtain⟨l,k1,k2,k3⟩:=acI fs _ h3;refine⟨(f.offset,inf.size)::l,?_,by simp[k2],fun i g ig hi gl=>?_⟩
  ·simp[YO,h2,k1]
  ·cases i with
   |zero=>simp at hi;subst hi;rw[h2] at gl;cases gl;rfl
   |succ i=>simp at hi;simpa using k3 i g ig hi gl
theorem aah {parts:List (Nat×Operand)}(bX:(parts.map (·.1)).Nodup){i:Nat}{x:Operand}(h:(i,x)∈parts):parts.find? (fun p=>Nat.beq p.1 i)=some (i,x):=by
 induction parts with
 |nil=>cases h
 |cons p ps ih=>
  simp only[jN,uf] at bX;rcases cW.1 h with e|hm
  ·subst e;simp
  ·have:¬p.1=i:=fun e=>bX.1 (e▸List.mem_map_of_mem (f:=(·.1)) hm);rw[List.find?_cons_of_neg (by simpa using this)];exact ih bX.2 hm
theorem atK (h:Inv C S ρ σ own hv w0 σ0 A a w)(hC:CtxOK C σ0)(hg:holds gs ρ=true){T:TypeId}{ps:Array (Nat×Operand)}{r:Sh×List PI}(hr:SB C S gs dst T ps.toList=some r){o:Oper}(ho:o.op=.build T ps):
 eI C S ρ σ hv Φ dst a w o r:=by
 unfold SB at hr;split at hr
 case h_3=>cases hr
 case h_2=>
  rename_i n e inf hT oh;split at hr
  case h_2=>cases hr
  rename_i zs ie hz hie;split at hr
  case h_2=>cases hr
  rename_i x y A0;simp only[aG] at hr;obtain⟨p,hp,q,hq,hr⟩:=hr;split at hr
  case h_2=>cases hr
  rename_i k k' hk bo;cases hc:(Nat.beq n 2&&Nat.beq zs.size 2&&Nat.beq ie.size 1)<;>simp only[hc,cond_true,cond_false] at hr
  ·cases hr
  cases hr;simp only[az] at hc;obtain⟨⟨c1,c2⟩,c3⟩:=hc;have c1:=aN c1;have c2:=aN c2;have c3:=aN c3;subst c1;have hx:=cG h hC hg hp;have hy:=cG h hC hg hq;rw[hk] at hx;rw[bo] at hy;obtain⟨a1,Pv,ea2,_⟩:=hx.int_inv;obtain⟨b1,Pw,eb2,_⟩:=hy.int_inv;have ap1:ps=#[(0,x),(1,y)]:=by rw[←vS];exact A0
  obtain⟨z0,z1,rfl⟩:∃z0 z1,zs=#[z0,z1]:=by
   match zs,c2 with
   |⟨[z0,z1]⟩,_=>exact⟨z0,z1,rfl⟩
  have P9:C.P.built T [(0,a.eval x),(1,a.eval y)]=some #[a.eval x,a.eval y]:=by
   rw[Pv,Pw];simp only[Program.built,oh,hT,hz,hie,c3];simp[Instr.fill,Value.cells]
  have ay:(execOp a.eval o).run C.P w=.ok (.value (.agg #[a.eval x,a.eval y])) w:=by
   have:=run_build (P:=C.P) w T (ps.map fun(x:Nat×Operand)=>(x.1,a.eval x.2)) #[a.eval x,a.eval y] (by rw[ap1];simpa using P9);simp[execOp,ho,this]
  refine .dat ay ?_;have e1:(PE.mk [p.2,q.2]).ev ρ=.agg [p.2.ev ρ,q.2.ev ρ]:=by simp[PE.ev,PE.evc,ea2,eb2,D.cells]
  rw[e1];refine .agg _ [a.eval x,a.eval y] _ rfl rfl (fun i t hi=>?_) (fun i t hi=>?_)
  ·match i,hi with
   |0,hi=>simp at hi;subst hi;rw[hk];simpa using hx
   |1,hi=>simp at hi;subst hi;rw[bo];simpa using hy
   |i+2,hi=>simp at hi
  ·match i,hi with
   |0,hi=>simp at hi;subst hi;rw[hk];rfl
   |1,hi=>simp at hi;subst hi;rw[bo];rfl
   |i+2,hi=>simp at hi
 rename_i fs inf hT oh;split at hr
 case h_2=>cases hr
 rename_i zs hz;cases hc:(mE (ps.toList.map (·.1))&&ps.toList.all (fun p=>Nat.blt p.1 fs.size))<;>simp only[hc,cond_true,cond_false] at hr
 ·cases hr
 simp only[az] at hc;obtain⟨bX,ar⟩:=hc;simp only[aR] at hr;obtain⟨q,hq,rfl⟩:=hr;have Kp:=akj _ _ _ _ hq;have my:=tj bX;obtain⟨_,rfl,bU,aqD,Ql⟩:=aki _ _ _ _ hq;obtain⟨pl,eO,aFH,Em⟩:=acI _ _ Kp
 have q8:∀p,p∈(ps.toList.map fun(x:Nat×Operand)=>(x.1,a.eval x.2))→∃o,pl.toArray[p.1]?=some (o,p.2.cells.size)∧o+p.2.cells.size≤zs.size:=by
  intro p hp;obtain⟨x,hx,rfl⟩:=dH.1 hp;have xw:x.1<fs.toList.length:=by
   have:=fl.1 ar x hx;have h2:x.1<fs.size:=by simpa [qC] using this
   simpa using h2
  obtain⟨f,hf⟩:∃f,fs.toList[x.1]?=some f:=⟨_,cl xw⟩
  obtain⟨ig,gl,_,_⟩:=Kp.get _ _ hf;have D3:=aah my (i:=x.1) (x:=x.2) hx;obtain⟨y,ft,hy,cR,bp⟩:=aqD x.1 (x.1,x.2) f ig hf gl (by simpa using D3);have A6:=(cG h hC hg hy).size;rw[(Ty.sub_one _ _ cR).2,bp] at A6;simp only;refine⟨f.offset,?_,?_⟩
  ·rw[A6];simpa using Em x.1 f ig hf gl
  ·rw[A6];simpa using bU x.1 f ig hf gl
 have AI:∀(i j oi si oj sj:Nat),i≠j→pl.toArray[i]?=some (oi,si)→pl.toArray[j]?=some (oj,sj)→oi+si≤oj∨oj+sj≤oi:=by
  intro i j oi si oj sj aA hi hj;simp only[Hc] at hi hj;obtain⟨f,hf⟩:∃f,fs.toList[i]?=some f:=⟨_,cl (by have:=(jh.1 hi).1;omega)⟩
  obtain⟨g,AN⟩:∃g,fs.toList[j]?=some g:=⟨_,cl (by have:=(jh.1 hj).1;omega)⟩
  obtain⟨ig,gl,_,aps⟩:=Kp.get _ _ hf;obtain⟨jg,hjg,_,apt⟩:=Kp.get _ _ AN;rw[Em i f ig hf gl] at hi;rw[Em j g jg AN hjg] at hj;cases hi;cases hj;rcases N5 i j with ar|fG
  ·exact .inl (aps j g ar AN)
  ·exact .inr (apt i f (by omega) hf)
 obtain⟨fE,f1,f2,f3,f4⟩:=PG (pl.toArray[·]?) (ps.toList.map fun(x:Nat×Operand)=>(x.1,a.eval x.2)) zs q8 AI (by simpa [NJ] using my)
 have P9:C.P.built T (ps.toList.map fun(x:Nat×Operand)=>(x.1,a.eval x.2))=some fE:=by
  simp only[Program.built,oh,hT,hz,eO];exact f1
 have ay:(execOp a.eval o).run C.P w=.ok (.value (.agg fE)) w:=by
  have:=run_build (P:=C.P) w T (ps.map fun(x:Nat×Operand)=>(x.1,a.eval x.2)) fE (by rw[G8];exact P9);simp[execOp,ho,this]
 refine .dat ay ?_;have w7:∀(m:Nat) (f:Field) (ig:TypeInfo),fs.toList[m]?=some f→C.P.info? f.type=some ig→
  (∀x,ps.toList.find? (fun p=>Nat.beq p.1 (0+m))=some x→∀q,q<ig.size→fE[f.offset+q]?=(a.eval x.2).cells[q]?)∧
  (ps.toList.find? (fun p=>Nat.beq p.1 (0+m))=none→∀q,q<ig.size→fE[f.offset+q]?=zs.toList[f.offset+q]?):=by
  intro m f ig hm gl;refine⟨fun x hx p hp=>?_,fun hx p hp=>?_⟩
  ·have nm:x.1=m:=by have:=Cn hx;simpa using this
   have Bf:(x.1,a.eval x.2)∈(ps.toList.map fun(x:Nat×Operand)=>(x.1,a.eval x.2)):=dH.2 ⟨x,pg hx,rfl⟩;obtain⟨o',jr,hle⟩:=q8 _ Bf;simp only at jr hle;have abY:=Em m f ig hm gl;simp only[Hc,nm] at jr;rw[abY] at jr;simp only[bx,nV] at jr;obtain⟨e1,e2⟩:=jr;exact f3 x.1 (a.eval x.2) f.offset Bf (by simp[nm,abY,←e2]) p (by omega)
  ·have ko:m∉(ps.toList.map fun(x:Nat×Operand)=>(x.1,a.eval x.2)).map (·.1):=by
        intro cJ;simp only[NX,dH,NJ] at cJ;obtain⟨x,Bf,e⟩:=cJ;have:=nS.1 hx x Bf;simp[e] at this
   rw[f4 m f.offset ig.size ko (by simpa using Em m f ig hm gl) p hp];simp
 obtain⟨l1,bn⟩:=akk h hC hg fE _ _ _ _ hq w7
 ·simp only[PE.ev];have:fE=fE.toList.toArray:=by simp
  rw[this];have hlen:fE.toList.length=q.1.length:=by simp[f2] at Ql ⊢;omega
  refine .agg _ _ _ hlen l1 (fun i t hi=>?_) (fun i t hi=>(bn i t hi).1);have:=(bn i t hi).2;simpa [hZ,bh] using this
end
end Cx
namespace Cx
open Go Go.RowKit
def abS (b i:Nat):Nat:=4096*(i+1)+b
def St.fz (S:St)(j:Nat):St:=
 match S.o j with
 |.row _ e=>S.setO j (.fz (.slice e.rol))
 |.mp k e=>S.setO j (.fz (.map k e))
 |_=>S
def DK (S:St)(b:Nat):Option (St×List PI):=
 match S.o b with
 |.box ag aO=>
  (yY S b aO 0).bind fun x=>
    bif ag then some (S.setO b (.fbox (.agg x.1)),[.setO b (.mk x.2)])
    else match x.1,x.2 with
     |[t],[e]=>some (S.setO b (.fbox t),[.setO b e])
     |_,_=>Option.none
 |_=>Option.none
def St.mv (S:St)(j j':Nat):St:=
 {S with o:=cE (cE S.o j' (S.o j)) j .dead,ver:=cE (cE S.ver j' (S.ver j'+1)) j (S.ver j+1)}
def ns:Ob→Bool
 |.row ..=>true
 |.mp ..=>true
 |_=>false
def GI (S:St)(t j':Nat):Option (St×List PI):=
 match S.r t with
 |.obj j ver=>
  bif Nat.beq ver (S.ver j)&&ns (S.o j)&& !Nat.beq j j' then some ((S.mv j j').setR t (.obj j' (S.ver j'+1)),[.setO j' (.o j)])
  else some (S,[])
 |_=>some (S,[])
def GH (S:St)(b i j':Nat):Option (St×List PI):=
 match S.o b with
 |.box ag aO=>
  match aO[i]? with
  |some (.obj j ver)=>
   bif Nat.beq ver (S.ver j)&&ns (S.o j)&& !Nat.beq j j'&& !Nat.beq b j'&& !Nat.beq b j then
    some ((S.mv j j').setO b (.box ag (aO.set i (.obj j' (S.ver j'+1)))),[.setO j' (.o j)])
   else some (S,[])
  |_=>some (S,[])
 |_=>some (S,[])
def Ei (C:Ctx)(S:St)(b i j:Nat)(T:TypeId):Option (St×List PI):=
 match S.o b with
 |.box ag aO=>
  match aO[i]?,oS C.P T with
  |some (.dat (.nils _)),some e=>
   bif !Nat.beq b j then some ((S.newO j (.row T e)).setO b (.box ag (aO.set i (.obj j (S.ver j+1)))),[.setO j (.con (.list []))])
   else some (S,[])
  |_,_=>some (S,[])
 |_=>some (S,[])
section
variable {C:Ctx} {S:St} {ρ:Env} {σ:Im} {own:Nat→Option Nat} {hv:Nat→Value} {w0:World} {σ0:Base} {A:Nat→Prop} {a:Act} {w:World} {gs:List (Nat×Bool)} {Φ:aY} {dst:Nat}
theorem Inv.lt (h:Inv C S ρ σ own hv w0 σ0 A a w){k o:Nat}{u:Value}(hc:σ.c k o=some u):k<w.heap.size:=World.block_lt_of_cell? w (a:=⟨k,o,none⟩) (h.ok.c _ _ _ hc)
theorem Inv.ltm (h:Inv C S ρ σ own hv w0 σ0 A a w){k:Nat}{es:List (Value×Value)}(hc:σ.m k=some es):k<w.heap.size:=by
 exact(h.ok.m _ _ hc).lt
theorem Im.ok.below {σ:Im}{w w':World}(h:σ.ok w)(hb:Below w.heap.size w w'):σ.ok w':=by
 refine⟨fun k o v hc=>?_,fun k es hc=>?_⟩
 ·have h1:=h.c k o v hc;rw[hb.cell (World.block_lt_of_cell? w (a:=⟨k,o,none⟩) h1)];exact h1
 ·exact(h.m k es hc).keep (hb.block k (h.m k es hc).lt)
def gq (own:Nat→Option Nat)(j:Nat)(nb:Nat→Bool):Nat→Option Nat:=fun k=>if nb k then some j else if own k=some j then none else own k
theorem Inv.newOσ (h:Inv C S ρ σ own hv w0 σ0 A a w)(j:Nat)(ob:Ob)(d:D)(v:Value)(nb:Nat→Bool){σ':Im}{w':World}(hle:σ.le σ')(aB:σ'.ok w')(gm:∀k o x,σ'.c k o=some x→σ.c k o=some x∨w.heap.size≤k)(ed:∀k x,σ'.m k=some x→σ.m k=some x∨w.heap.size≤k)
 (hw:Below w.heap.size w w') (dZ:∀k,nb k=true→w.heap.size≤k∧k<w'.heap.size) (gj:∀k,nb k=true→(∀o,σ'.c k o=none)∧σ'.m k=none)
 (de:dX C (S.newO j ob) (ρ.setO j d) σ' (gq own j nb) (cE hv j v) w' w0.heap.size j ob) (pX:ob≠.tr:=by intro h;cases h):Inv C (S.newO j ob) (ρ.setO j d) σ' (gq own j nb) (cE hv j v) w0 σ0 A a w':=by
 have bp:w0.heap.size≤w.heap.size:=h.below.size;have dz:∀k i,i≠j→own k=some i→gq own j nb k=some i:=by
  intro k i hi hk;have h1:=h.owns k i hk;have h2:nb k=false:=by
   cases hn:nb k with
   |false=>rfl
   |true=>have:=dZ k hn;omega
  simp[gq,h2,hk,hi]
 refine h.step (fun i=>i=j) rfl hle aB (fun k o x hx=>(gm k o x hx).imp id fun e=>⟨by omega,.inr e⟩) (fun k x hx=>(ed k x hx).imp id fun e=>⟨by omega,.inr e⟩) (hw.mono bp) ⟨fun i=>?_,fun i e=>?_⟩ (fun i hi=>⟨?_,?_,?_,fun k hk=>⟨dz k i hi hk,?_⟩⟩) (fun i hi=>?_) (fun k i hk=>?_) (fun _=>id) (fun t=>.inl ⟨rfl,rfl,rfl⟩) (fun _ _=>rfl) (fun k hk _=>hw.block k hk) (fun k i hk=>by
  unfold gq at hk;split at hk
  ·rename_i hn;exact .inr (dZ k hn).1
  ·split at hk
   ·cases hk
   ·exact .inl ⟨i,hk⟩) (fun i hi=>by subst hi;simpa only[St.newO,be] using pX)
 ·simp only[St.newO,gN];split<;>rename_i e
  ·subst e;omega
  ·omega
 ·simp only[St.newO,gN] at e;split at e
  ·rename_i e';subst e';omega
  ·rename_i aA;exact bR _ _ aA
 ·simp[St.newO,bR _ _ hi]
 ·simp[Env.setO,bR _ _ hi]
 ·exact bR _ _ hi
 ·exact hw.block k (h.owns k i hk).2.1
 ·subst hi;simp only[St.newO,be];exact de
 ·unfold gq at hk;split at hk
  ·rename_i hn;obtain⟨g1,g2⟩:=dZ k hn;exact⟨by omega,g2,(gj k hn).1,(gj k hn).2⟩
  ·split at hk
   ·cases hk
   ·obtain⟨g1,g2,g3,g4⟩:=h.owns k i hk;refine⟨g1,by have:=hw.size;omega,fun o=>?_,?_⟩
    ·cases hc:σ'.c k o with
     |none=>rfl
     |some u=>
      rcases gm k o u hc with e|e
      ·rw[g3 o] at e;cases e
      ·omega
    ·cases hc:σ'.m k with
     |none=>rfl
     |some u=>
      rcases ed k u hc with e|e
      ·rw[g4] at e;cases e
      ·omega
theorem Inv.newO (h:Inv C S ρ σ own hv w0 σ0 A a w)(j:Nat)(ob:Ob)(d:D)(v:Value)(nb:Nat→Bool){w':World}(hw:Below w.heap.size w w')(dZ:∀k,nb k=true→w.heap.size≤k∧k<w'.heap.size)
 (de:dX C (S.newO j ob) (ρ.setO j d) σ (gq own j nb) (cE hv j v) w' w0.heap.size j ob) (pX:ob≠.tr:=by intro h;cases h):Inv C (S.newO j ob) (ρ.setO j d) σ (gq own j nb) (cE hv j v) w0 σ0 A a w':=by
 refine h.newOσ j ob d v nb (.refl σ) (h.ok.below hw) (fun _ _ _ hx=>.inl hx) (fun _ _ hx=>.inl hx) hw dZ (fun k hn=>⟨fun o=>?_,?_⟩) de pX
 ·cases hc:σ.c k o with
  |none=>rfl
  |some u=>have:=h.lt hc;have:=(dZ k hn).1;omega
 ·cases hc:σ.m k with
  |none=>rfl
  |some u=>have:=h.ltm hc;have:=(dZ k hn).1;omega
theorem Inv.setObj (h:Inv C S ρ σ own hv w0 σ0 A a w){t j:Nat}(ht:¬A t){v:Value}(fa:hv j=v)(ar:t<a.tmps.size):
 Inv C (S.setR t (.obj j (S.ver j))) (ρ.setR t .none) σ own hv w0 σ0 (fun u=>A u∨u=t) (a.put (some t) v) w:=
 h.setReg ht (s:=.obj j (S.ver j)) (v:=v) (d:=.none) ⟨bK _,fun _=>fa.symm⟩ ar (fun _ _ e=>by cases e)
theorem PQ (S:St)(j:Nat):(S.fz j).ver=S.ver∧(S.fz j).r=S.r:=by
 unfold St.fz;split<;>exact⟨rfl,rfl⟩
theorem Inv.fz (h:Inv C S ρ σ own hv w0 σ0 A a w)(j:Nat):∃σ' own',σ.le σ'∧Inv C (S.fz j) ρ σ' own' hv w0 σ0 A a w:=by
 have bG:=h.objs j;unfold St.fz;split
 ·rename_i T e eo;rw[eo] at bG;obtain⟨cells,xs,h1,h2,⟨vs,h3,h4⟩,h5⟩:=bG;have bp:w0.heap.size≤w.heap.size:=h.below.size
  let nb:Nat→Bool:=fun k=>decide ((hv j).ownBlock=some k)
  let σ':Im:={c:=fun k o=>if nb k then cells[o]? else σ.c k o,m:=σ.m}
  have dZ:∀k,nb k=true→own k=some j:=fun k hk=>h5 k (by simpa [nb] using hk);have hle:σ.le σ':=by
   refine⟨fun k o v hc=>?_,fun k es hc=>hc⟩;have:nb k=false:=by
        cases hn:nb k with
        |false=>rfl
        |true=>have:=(h.owns k j (dZ k hn)).2.2.1 o;rw[this] at hc;cases hc
   simp[σ',this,hc]
  refine⟨σ',fun k=>if nb k then none else own k,hle,h.step (fun i=>i=j) rfl hle ?_ (fun k o x hx=>?_) (fun _ _ hx=>.inl hx) (.refl _ _) ⟨fun _=>bK _,fun _ _=>rfl⟩ (fun i hi=>⟨?_,rfl,rfl,fun k hk=>⟨?_,rfl⟩⟩) (fun i hi=>?_) (fun k i hk=>?_) (fun _=>id) (fun t=>.inl ⟨rfl,rfl,rfl⟩) (fun _ _=>rfl) (fun _ _ _=>rfl) (fun k i hk=>by
        split at hk
        ·cases hk
        ·exact .inl ⟨i,hk⟩) (fun i hi=>by subst hi;simp[St.setO,be])⟩
  ·refine⟨fun k o v hc=>?_,h.ok.m⟩;simp only[σ'] at hc;split at hc
   ·rename_i hn;have de:(hv j).ownBlock=some k:=by simpa [nb] using hn
    have:=h2.cells de o v hc;rw[ui] at this;simpa using this
   ·exact h.ok.c k o v hc
  ·simp only[σ'] at hx;split at hx
   ·rename_i hn;exact .inr ⟨(h.owns k j (dZ k hn)).1,.inl ⟨j,dZ k hn⟩⟩
   ·exact .inl hx
  ·simp[St.setO,bR _ _ hi]
  ·have:nb k=false:=by
        cases hn:nb k with
        |false=>rfl
        |true=>rw[dZ k hn] at hk;simp at hk;exact absurd hk.symm hi
   simp[this,hk]
  ·subst hi;simp only[St.setO,be];refine⟨rfl,?_⟩;rw[h1];rcases h2.2 with⟨e1,e2⟩|⟨g,cap,cur,e1,e2,e3,e4,e5,e6,e7⟩
   ·rw[e1];have:xs=[]:=YJ e2;subst this;exact .nil _
   ·rw[e1];refine .slice e.rol g 0 xs.length cap xs vs rfl e4 e5 (fun i x hx=>((h3 i x hx).mono hle).unf_rol) (fun i m u hi hu=>?_);rw[Ty.rol_size];have hn:nb g=true:=by simp[nb,e1,Value.ownBlock]
    simp only[σ',hn,if_true,mU];exact h4 i m u hi hu
  ·split at hk
   ·cases hk
   ·rename_i hn;obtain⟨g1,g2,g3,g4⟩:=h.owns k i hk;exact⟨g1,g2,fun o=>by simp[σ',hn,g3 o],g4⟩
 ·rename_i kt et eo;rw[eo] at bG;obtain⟨k0,arr,clock,gD,h1,h2,h3,h4,h5,⟨hx,_⟩,h6⟩:=bG;have bp:w0.heap.size≤w.heap.size:=h.below.size
  let σ':Im:={c:=σ.c,m:=fun k=>if k=k0 then some (entriesOf arr) else σ.m k}
  have hle:σ.le σ':=by
   refine⟨fun k o v hc=>hc,fun k es hc=>?_⟩;have:k≠k0:=fun e=>by subst e;rw[(h.owns k j h2).2.2.2] at hc;cases hc
   simp[σ',this,hc]
  refine⟨σ',fun k=>if k=k0 then none else own k,hle,h.step (fun i=>i=j) rfl hle ?_ (fun k o x hx=>.inl hx) (fun k x hx=>?_) (.refl _ _) ⟨fun _=>bK _,fun _ _=>rfl⟩ (fun i hi=>⟨?_,rfl,rfl,fun k hk=>⟨?_,rfl⟩⟩) (fun i hi=>?_) (fun k i hk=>?_) (fun _=>id) (fun t=>.inl ⟨rfl,rfl,rfl⟩) (fun _ _=>rfl) (fun _ _ _=>rfl) (fun k i hk=>by
        split at hk
        ·cases hk
        ·exact .inl ⟨i,hk⟩) (fun i hi=>by subst hi;simp[St.setO,be])⟩
  ·refine⟨h.ok.c,fun k es hc=>?_⟩;simp only[σ'] at hc;split at hc
   ·rename_i e;subst e;cases hc;refine .inl ⟨fun e=>?_,arr,clock,h3,rfl⟩;refine EX (cap:=C.cap) (σ:=σ) (kt:=kt) (es:=gD) (by simp[entriesOf,h5]) (fun i p q hp hq=>?_) e;simp only[entriesOf,dG,aR] at hp;obtain⟨x,du,rfl⟩:=hp;exact(h6 i x q (by simpa using du) hq).1
   ·exact h.ok.m k es hc
  ·simp only[σ'] at hx;split at hx
   ·rename_i e;subst e;exact .inr ⟨(h.owns k j h2).1,.inl ⟨j,h2⟩⟩
   ·exact .inl hx
  ·simp[St.setO,bR _ _ hi]
  ·have:k≠k0:=fun e=>by subst e;rw[h2] at hk;simp at hk;exact hi hk.symm
   simp[this,hk]
  ·subst hi;simp only[St.setO,be];refine⟨rfl,?_⟩;rw[h1,h4];refine .map kt et k0 (entriesOf arr) gD (by simp[σ']) (by simp[entriesOf,h5]) hx (fun i p q hp hq=>?_) (fun i p q hp hq=>?_)
   ·simp only[entriesOf,dG,aR] at hp;obtain⟨e,he,rfl⟩:=hp;exact((h6 i e q (by simpa using he) hq).1).mono hle
   ·simp only[entriesOf,dG,aR] at hp;obtain⟨e,he,rfl⟩:=hp;exact((h6 i e q (by simpa using he) hq).2).mono hle
  ·split at hk
   ·cases hk
   ·rename_i hn;obtain⟨g1,g2,g3,g4⟩:=h.owns k i hk;exact⟨g1,g2,g3,by simp[σ',hn,g4]⟩
 ·exact⟨σ,own,.refl σ,h⟩
end
end Cx
namespace Cx
open Go Go.RowKit
section
variable {C:Ctx} {S:St} {ρ:Env} {σ:Im} {own:Nat→Option Nat} {hv:Nat→Value} {w0:World} {σ0:Base} {A:Nat→Prop} {a:Act} {w:World} {gs:List (Nat×Bool)} {Φ:aY} {dst:Nat}
theorem tP {j:Nat}{e:PE}{ρ':Env}(h:PI.runs Φ [.setO j e] ρ=some ρ'):ρ'=ρ.setO j (e.ev ρ):=by
 simp[PI.runs,PI.run] at h;exact h.symm
theorem oO {ρ':Env}(h:PI.runs Φ [] ρ=some ρ'):ρ'=ρ:=by
 simp[PI.runs] at h;exact h.symm
def Ck (C:Ctx)(w0:World)(σ0:Base)(Φ:aY)(S:St)(ρ:Env)(A:Nat→Prop)(a:Act)(w:World)(r:St×List PI):Prop:=
 ∀ρ',PI.runs Φ r.2 ρ=some ρ'→Good C w0 σ0 r.1 ρ' A a w
theorem anK (h:Inv C S ρ σ own hv w0 σ0 A a w){b:Nat}{r:St×List PI}(hr:DK S b=some r):Ck C w0 σ0 Φ S ρ A a w r:=by
 unfold DK at hr;split at hr
 case h_2=>cases hr
 rename_i ag aO eo;simp only[aG] at hr;obtain⟨x,hx,hr⟩:=hr;have bG:=h.objs b;rw[eo] at bG;obtain⟨k,cs,T,ds,h1,h2,h3,h4,h5,h6,h7⟩:=bG;obtain⟨l1,es,⟨he,sK⟩,l2,cK⟩:=ZB h (cs:=cs.toList) h5 aO 0 x (fun m s hm=>by rw[Au,mU];exact(h7 m s hm).2) hx
 let σ':Im:={c:=fun k' o=>if k'=k then cs[o]? else σ.c k' o,m:=σ.m}
 have hle:σ.le σ':=by
  refine⟨fun k' o v hc=>?_,fun k es hc=>hc⟩;have:k'≠k:=fun e=>by subst e;rw[(h.owns k' b h2).2.2.1 o] at hc;cases hc
  simp[σ',this,hc]
 have key:∀(t:Ty) (v:Value) (d:D),Rep C.cap σ' t v d→(∀(i:Nat) (u:Value),v.cells[i]?=some u→cs[i]?=some u)→
  Inv C (S.setO b (.fbox t)) (ρ.setO b d) σ' (fun k'=>if k'=k then none else own k') hv w0 σ0 A a w:=by
  intro t v d hrv bA
  refine h.step (fun i=>i=b) rfl hle ?_ (fun k' o x hx=>?_) (fun _ _ hx=>.inl hx) (.refl _ _) ⟨fun _=>bK _,fun _ _=>rfl⟩ (fun i hi=>⟨?_,?_,rfl,fun k' hk=>⟨?_,rfl⟩⟩) (fun i hi=>?_) (fun k' i hk=>?_) (fun _=>id) (fun t=>.inl ⟨rfl,rfl,rfl⟩) (fun _ _=>rfl) (fun _ _ _=>rfl) (fun k' i hk=>by
        split at hk
        ·cases hk
        ·exact .inl ⟨i,hk⟩) (fun i hi=>by subst hi;simp[St.setO,be])
  ·refine⟨fun k' o v hc=>?_,h.ok.m⟩;simp only[σ'] at hc;split at hc
   ·rename_i e;subst e;simp[World.cell?,h3,hc]
   ·exact h.ok.c k' o v hc
  ·simp only[σ'] at hx;split at hx
   ·rename_i e;subst e;exact .inr ⟨(h.owns k' b h2).1,.inl ⟨b,h2⟩⟩
   ·exact .inl hx
  ·simp[St.setO,bR _ _ hi]
  ·simp[Env.setO,bR _ _ hi]
  ·have:k'≠k:=fun e=>by subst e;rw[h2] at hk;simp at hk;exact hi hk.symm
   simp[this,hk]
  ·subst hi;simp only[St.setO,be];exact⟨k,v,h1,by simp only[Env.setO,be];exact hrv,fun i u hu=>by simp[σ',bA i u hu]⟩
  ·split at hk
   ·cases hk
   ·rename_i hn;obtain⟨g1,g2,g3,g4⟩:=h.owns k' i hk;exact⟨g1,g2,fun o=>by simp[σ',hn,g3 o],g4⟩
 have kQ:∀(m:Nat) (t:Ty),x.1[m]?=some t→t.one=true∧Rep C.cap σ' t (cs.toList.getD m undef) (es.getD m .none):=fun m t hm=>by
  obtain⟨g1,g2⟩:=cK m t hm;rw[mU] at g2;exact⟨g1,g2.mono hle⟩
 intro ρ' ay;cases ag with
 |true=>
  simp only[cond_true] at hr;cases hr;have:=tP ay;subst this;refine⟨_,_,_,key (.agg x.1) (.agg cs.toList.toArray) _ ?_ (fun i u hu=>by simpa [Value.cells] using hu)⟩;simp only[PE.ev,he];exact .agg _ _ _ (by simp;omega) (by omega) (fun m t hm=>(kQ m t hm).2) (fun m t hm=>(kQ m t hm).1)
 |false=>
  simp only[cond_false] at hr;split at hr
  ·rename_i t e et ee;cases hr;have:=tP ay;subst this;obtain⟨g1,g2⟩:=kQ 0 t (by rw[et];rfl);have lG:es=[e.ev ρ]:=by rw[←sK,ee];rfl
   subst lG;refine⟨_,_,_,key t (cs.toList.getD 0 undef) _ (by simpa using g2) (fun i u hu=>?_)⟩;rw[(g2.oneCell g1).1] at hu;have hi:i=0:=by
        have:=(gO.1 hu).1;simpa using this
   subst hi;simp at hu;subst hu;have:0<cs.size:=by rw[h4];rw[et] at l1;simp at l1;omega
   rw[j9 this];simp[bh,j9 this]
  ·cases hr
theorem Inv.mv (h:Inv C S ρ σ own hv w0 σ0 A a w){j j':Nat}(aA:j≠j')(hk:ns (S.o j)=true):
 Inv C (S.mv j j') (ρ.setO j' (ρ.o j)) σ (fun k=>if own k=some j then some j' else if own k=some j' then none else own k) (cE hv j' (hv j)) w0 σ0 A a w:=by
 have bG:=h.objs j
 refine h.step (fun i=>i=j∨i=j') rfl (.refl σ) h.ok (fun _ _ _ hx=>.inl hx) (fun _ _ hx=>.inl hx) (.refl _ _) ⟨fun i=>?_,fun i e=>?_⟩ (fun i hi=>?_) (fun i hi=>?_) (fun k i hk=>?_) (fun _=>id) (fun t=>.inl ⟨rfl,rfl,rfl⟩) (fun _ _=>rfl) (fun _ _ _=>rfl) (fun k i hk=>by
        split at hk
        ·rename_i e;exact .inl ⟨j,e⟩
        ·split at hk
         ·cases hk
         ·exact .inl ⟨i,hk⟩) (fun i hi=>by
        rcases hi with rfl|rfl
        ·simp[St.mv,be]
        ·simp only[St.mv,bR _ _ (yR aA),be];intro e;rw[e] at hk;cases hk)
 ·simp only[St.mv,gN];split
  ·rename_i e;subst e;omega
  ·split
   ·rename_i e;subst e;omega
   ·omega
 ·simp only[St.mv,gN] at e;split at e
  ·rename_i e';subst e';omega
  ·split at e
   ·rename_i e';subst e';omega
   ·rename_i QE;exact bR _ _ QE
 ·simp only[not_or] at hi;refine⟨by simp[St.mv,bR _ _ hi.1,bR _ _ hi.2],by simp[Env.setO,bR _ _ hi.2],bR _ _ hi.2,fun k hk=>⟨?_,rfl⟩⟩;have e1:i≠j:=hi.1;have e2:i≠j':=hi.2;simp[hk,e1,e2]
 ·rcases hi with rfl|rfl
  ·simp only[St.mv,be];trivial
  ·simp only[St.mv,bR _ _ (yR aA),be];cases de:S.o j with
   |row T e=>
    rw[de] at bG;obtain⟨cells,xs,h1,h2,h3,h4⟩:=bG;refine⟨cells,xs,by simp only[Env.setO,be];exact h1,by rw[be];exact h2,h3,fun k hk=>?_⟩;rw[be] at hk;simp[h4 k hk]
   |mp kt et=>
    rw[de] at bG;obtain⟨k0,arr,clock,es,h1,h2,h3,h4,h5,h6⟩:=bG;exact⟨k0,arr,clock,es,by rw[be];exact h1,by simp[h2],h3,by simp only[Env.setO,be];exact h4,h5,h6⟩
   |_=>rw[de] at hk;simp[ns] at hk
 ·split at hk
  ·rename_i e;exact h.owns k j e
  ·split at hk
   ·cases hk
   ·exact h.owns k i hk
theorem avP (h:Inv C S ρ σ own hv w0 σ0 A a w){t j':Nat}{r:St×List PI}(hr:GI S t j'=some r):Ck C w0 σ0 Φ S ρ A a w r:=by
 intro ρ' ay;unfold GI at hr;split at hr
 ·rename_i j ver es;cases hb:(Nat.beq ver (S.ver j)&&ns (S.o j)&& !Nat.beq j j')<;>simp only[hb,cond_true,cond_false] at hr
  ·cases hr;rw[oO ay];exact⟨_,_,_,h⟩
  ·cases hr;simp only[az,lu] at hb;have fS:=aN hb.1.1;have aA:j≠j':=fun e=>by subst e;simp at hb
   have ni:=h.mv aA hb.1.2;have pZ:=h.regs t;rw[es] at pZ;have cS:=pZ.2 fS;rw[tP ay];refine⟨_,_,_,ni.step (S':=(S.mv j j').setR t (.obj j' (S.ver j'+1))) (fun _=>False) rfl (.refl σ) ni.ok (fun _ _ _ hx=>.inl hx) (fun _ _ hx=>.inl hx) (.refl _ _) ⟨fun _=>bK _,fun _ _=>rfl⟩ (fun i _=>⟨rfl,rfl,rfl,fun k hk=>⟨hk,rfl⟩⟩) (fun _ hf=>hf.elim) ni.owns (fun _=>id) (fun u=>?_) (fun _ _=>rfl) (fun _ _ _=>rfl) (fun k i hk=>.inl ⟨i,hk⟩) (fun _ hf=>hf.elim)⟩;by_cases hu:u=t
   ·subst hu;refine .inr ⟨?_,fun gs s e=>by simp[St.setR,be] at e⟩;simp only[St.setR,be];refine⟨?_,fun _=>?_⟩
    ·simp[St.mv,bR _ _ (yR aA),be]
    ·rw[be];exact cS
   ·exact .inl ⟨by simp[St.setR,bR _ _ hu],rfl,rfl⟩
 ·cases hr;rw[oO ay];exact⟨_,_,_,h⟩
theorem avO (h:Inv C S ρ σ own hv w0 σ0 A a w){b i j':Nat}{r:St×List PI}(hr:GH S b i j'=some r):Ck C w0 σ0 Φ S ρ A a w r:=by
 intro ρ' ay;unfold GH at hr;split at hr
 ·rename_i ag aO eo;split at hr
  ·rename_i j ver es;cases hb:(Nat.beq ver (S.ver j)&&ns (S.o j)&& !Nat.beq j j'&& !Nat.beq b j'&& !Nat.beq b j)<;>simp only[hb,cond_true,cond_false] at hr
   ·cases hr;rw[oO ay];exact⟨_,_,_,h⟩
   ·cases hr;simp only[az,lu] at hb;have fS:=aN hb.1.1.1.1;have aA:j≠j':=fun e=>by subst e;simp at hb
    have jU:b≠j':=fun e=>by subst e;simp at hb
    have ew:b≠j:=fun e=>by subst e;simp at hb
    have bG:=h.objs b;rw[eo] at bG;obtain⟨k,cs,T,ds,h1,h2,h3,h4,h5,h6,h7⟩:=bG;have cS:=(h7 i _ es).2.2 fS;have ni:=h.mv aA hb.1.1.1.2;rw[tP ay];have PA:(S.mv j j').o b=.box ag aO:=by simp[St.mv,bR _ _ jU,bR _ _ ew,eo]
    have Eg:=ni.objs b;rw[PA] at Eg;refine⟨_,_,_,ni.step (S':=(S.mv j j').setO b (.box ag (aO.set i (.obj j' (S.ver j'+1))))) (fun m=>m=b) rfl (.refl σ) ni.ok (fun _ _ _ hx=>.inl hx) (fun _ _ hx=>.inl hx) (.refl _ _) ⟨fun _=>bK _,fun _ _=>rfl⟩ (fun m hm=>⟨by simp[St.setO,bR _ _ hm],rfl,rfl,fun k hk=>⟨hk,rfl⟩⟩) (fun m hm=>?_) ni.owns (fun _=>id) (fun t=>.inl ⟨rfl,rfl,rfl⟩) (fun _ _=>rfl) (fun _ _ _=>rfl) (fun k i hk=>.inl ⟨i,hk⟩) (fun m hm=>by subst hm;simp[St.setO,be])⟩;subst hm;rw[St.setO_o];obtain⟨k1,Dl,T1,Dn,g1,g2,g3,g4,g5,g6,g7⟩:=Eg;have e1:Dl=cs:=by
     rw[bR _ _ jU,h1] at g1;cases g1;rw[h3] at g3;cases g3;rfl
    refine⟨k1,Dl,T1,Dn,g1,g2,g3,by simpa using g4,g5,by simpa using g6,fun q x hq=>?_⟩;rw[Cq] at hq;split at hq
    ·rename_i e;subst e;split at hq
     ·cases hq;refine⟨(fun _ _ e=>by cases e),?_,fun _=>?_⟩
      ·simp[St.setO,St.mv,bR _ _ (yR aA),be]
      ·rw[be,e1];exact cS
     ·cases hq
    ·obtain⟨f1,f2⟩:=g7 q x hq;exact⟨f1,f2.mono' (.refl σ) (Compat.setO _ _ _ _) f1⟩
  ·cases hr;rw[oO ay];exact⟨_,_,_,h⟩
 ·cases hr;rw[oO ay];exact⟨_,_,_,h⟩
theorem apR (h:Inv C S ρ σ own hv w0 σ0 A a w){b i j:Nat}{T:TypeId}{r:St×List PI}(hr:Ei C S b i j T=some r):Ck C w0 σ0 Φ S ρ A a w r:=by
 intro ρ' ay;unfold Ei at hr;split at hr
 ·rename_i ag aO eo;split at hr
  ·rename_i e0 e es et;cases hb:(!Nat.beq b j)<;>simp only[hb,cond_true,cond_false] at hr
   ·cases hr;rw[oO ay];exact⟨_,_,_,h⟩
   ·cases hr;have aA:b≠j:=fun e=>by subst e;simp at hb
    have bG:=h.objs b;rw[eo] at bG;obtain⟨k,cs,T0,ds,h1,h2,h3,h4,h5,h6,h7⟩:=bG;have cS:cs.getD i undef=.slice none 0 0:=by
     have:=(h7 i _ es).2;generalize cs.getD i undef=v at this;generalize ds.getD i .none=d at this;cases this;rfl
    have lJ:=h.newO j (.row T e) (.list []) (.slice none 0 0) (fun _=>false) (.refl _ _) (by simp) ⟨[],[],by simp[Env.setO,be],by rw[be];exact World.ownsRow_nil _ _ _ _,⟨fun _=>undef,by simp,by simp⟩,by rw[be];simp[Value.ownBlock]⟩;rw[tP ay];have PA:(S.newO j (.row T e)).o b=.box ag aO:=by simp[St.newO,bR _ _ aA,eo]
    have Eg:=lJ.objs b;rw[PA] at Eg;refine⟨_,_,_,lJ.step (S':=(S.newO j (.row T e)).setO b (.box ag (aO.set i (.obj j (S.ver j+1))))) (fun m=>m=b) rfl (.refl σ) lJ.ok (fun _ _ _ hx=>.inl hx) (fun _ _ hx=>.inl hx) (.refl _ _) ⟨fun _=>bK _,fun _ _=>rfl⟩ (fun m hm=>⟨by simp[St.setO,bR _ _ hm],rfl,rfl,fun k hk=>⟨hk,rfl⟩⟩) (fun m hm=>?_) lJ.owns (fun _=>id) (fun t=>.inl ⟨rfl,rfl,rfl⟩) (fun _ _=>rfl) (fun _ _ _=>rfl) (fun k i hk=>.inl ⟨i,hk⟩) (fun m hm=>by subst hm;simp[St.setO,be])⟩;subst hm;rw[St.setO_o];obtain⟨k1,Dl,T1,Dn,g1,g2,g3,g4,g5,g6,g7⟩:=Eg;have e1:Dl=cs:=by
     rw[bR _ _ aA,h1] at g1;cases g1;rw[h3] at g3;cases g3;rfl
    refine⟨k1,Dl,T1,Dn,g1,g2,g3,by simpa using g4,g5,by simpa using g6,fun q x hq=>?_⟩;rw[Cq] at hq;split at hq
    ·rename_i e';subst e';split at hq
     ·cases hq;refine⟨(fun _ _ e=>by cases e),?_,fun _=>?_⟩
      ·simp[St.setO,St.newO,be]
      ·rw[be,e1];exact cS
     ·cases hq
    ·obtain⟨f1,f2⟩:=g7 q x hq;exact⟨f1,f2.mono' (.refl σ) (Compat.setO _ _ _ _) f1⟩
  ·cases hr;rw[oO ay];exact⟨_,_,_,h⟩
 ·cases hr;rw[oO ay];exact⟨_,_,_,h⟩
end
end Cx
